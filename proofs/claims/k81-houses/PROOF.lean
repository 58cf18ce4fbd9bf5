import PyProof.Rows.All
import Wide.All
import OpenK.AllK
import Wide.FinOn
import PySem.Syntax
import HandS.Base
import HandS.Call
import HandS.List
import HandS.Comp
import HandS.Dict
import HandS.Exc
import HandS.ExcOwn
import HandS.Lambda
import HandS.TupMul
import HandS.TupAny
import HandS.TupLe
import HandS.Wide
import HandS.TryOnly
import HandS.Zip
import HandS.Iter
import HandS.Deep
import KE.KTupSum
import HandS.Sort
import HandS.SortInts
import HandS.IsInst
import HandS.Star
import HandS.Conv
import HandS.ExcIs
import KE.GoesEnum
import KE.GoesZip
import HandS.Defaults
import HandS.MakeKw
import HandS.MakeKwOnly
import HandS.WordsExc
import HandS.OwnEq
import PyProof.InstEq
import KE.KLam
import HandS.ExcValue
import HandS.HeadHook4
import PyProof.ExcBaseAll.ValueError
import HandS.HeadWalk
import KE.KStateDown
import HandS.Head0
import HandS.Head1
import HandS.Head2
import HandS.HeadEnd
import HandS.HeadHook1
import HandS.HeadHook2
import HandS.HeadHook3
import PySem.Challenge.RW_stoppedso_k81_houses_and_where_one_may_s
section
set_option linter.all false
namespace Sv
open PySem

/-- values: tuples, lists that nobody changes any more, instances and errors as plain data; loc: what may change; numbers stand for classes, defs, lambdas; dic: a dict that nobody looks into any more -/
inductive PV where
  | non | bl (b : Bool) | int (i : Int) | str (s : Str)
  | tup (xs : List PV) | lst (xs : List PV) | fz (xs : List PV)
  | ins (C : Nat) (fs : List PV) | exc (C : Nat) (fs : List PV)
  | loc (i : Nat) | clo (k : Nat) | dic
  deriving Inhabited

inductive DK where
  | i (k : Int) | s (k : String)
  deriving DecidableEq

/-- what stands at a place of the store -/
inductive Cl where
  | lst (xs : List PV) | dct (kvs : List (DK × PV)) | ins (C : Nat) (fs : List PV)

abbrev Store := List Cl
abbrev Sg := List (Option PV)

inductive Rs (α : Type) where
  | ok (a : α) (S : Store) | ex (e : PV) (S : Store) | no

def Rs.bind {α β : Type} (r : Rs α) (f : α → Store → Rs β) : Rs β := match r with
  | .ok a S => f a S
  | .ex e S => .ex e S
  | .no => .no
theorem Rs.bind_ok {α β : Type} (a : α) (S : Store) (f : α → Store → Rs β) : (Rs.ok a S).bind f = f a S := rfl
theorem Rs.bind_ex {α β : Type} (e : PV) (S : Store) (f : α → Store → Rs β) : (Rs.ex e S).bind f = .ex e S := rfl
theorem Rs.bind_no {α β : Type} (f : α → Store → Rs β) : (Rs.no).bind f = .no := rfl

inductive Bo where
  | add | sub | mul | fdiv | mod | pow
inductive Co where
  | eq | ne | lt | le | gt | ge | isIn | notIn
/-- built-ins called by name, of one argument -/
inductive Bi where
  | len | abs | int | all | any | sum | tuple
/-- the same, that make a list -/
inductive Bl where
  | list | sorted
inductive Ty where
  | int | bool | str | list | tuple | dict | cls (C : Nat)

mutual
inductive E where
  | kn | kb (b : Bool) | ki (i : Int) | ks (s : String)
  | x (i : Nat)
  | gi (n : String) (i : Int)
  | bin (o : Bo) (m : Bool) (a b : E) | neg (a : E)
  | cmp (o : Co) (a b : E) | chn (o p : Co) (a b c : E)
  | isn (neg : Bool) (a : E) | isb (neg b : Bool) (a : E)
  | isi (a : E) (ts : List Ty)
  | and (a b : E) | or (a b : E) | not (a : E)
  | ite (c : Tst) (a b : E)
  | tup (es : Es) | lst (m : Bool) (es : Es) | dct (ks : List DK) (es : Es)
  | idx (a i : E) | slc (m : Bool) (a : E) (lo hi : Eo)
  | dgs (a : E) (k : String)
  | att (a : E) (ps : List (Nat × Nat))
  | call (f : Nat) (es : Es) | callk (f : Nat) (ks : List Nat) (es : Es)
  | bi (b : Bi) (a : E) | bl (b : Bl) (m : Bool) (a : E) | lrg (m : Bool) (a : E) | mm (mx : Bool) (a b : E)
  | popi (a i : E) | pop (a : E) | index (a b : E)
  | lc (m : Bool) (own : List Nat) (tg : Tg) (it : It) (c : Ct) (e : E)
  | clo (k : Nat) | callv (f : E) (es : Es)
  | caught (e : E)
inductive Es where
  | nil | cons (e : E) (r : Es) | star (e : E) (r : Es)
inductive Eo where
  | none | some (e : E)
inductive Tst where
  | v (e : E) | and (a b : Tst) | or (a b : Tst) | not (a : Tst)
inductive Ct where
  | none | some (c : Tst)
inductive It where
  | e (a : E) | range1 (a : E) | range2 (a b : E) | zip (a b : E) | enum (a : E)
/-- targets -/
inductive Tg where
  | x (i : Nat) | sub (o i : E) | tup (l : Tgs)
inductive Tgs where
  | nil | cons (t : Tg) (r : Tgs)
end

mutual
inductive T where
  | set (tg : Tg) (e : E) | par (is : List Nat) (es : Es)
  | setDk (o : E) (k : String) (e : E) | augIx (o i e : E)
  | setAt (o : E) (C j : Nat) (e : E)
  | ex (e : E) | app (o e : E)
  | ifs (c : Tst) (a b : Ts)
  | for (tg : Tg) (it : It) (b : Ts)
  | while (c : Tst) (b : Ts)
  | ret (e : E) | retN | pass
  | raise (C n : Nat) (es : Es)
inductive Ts where
  | nil | cons (t : T) (r : Ts)
end

def getS : Sg → Nat → Option PV
  | [], _ => none
  | a :: _, 0 => a
  | _ :: r, n + 1 => getS r n
def setS : Sg → Nat → Option PV → Sg
  | [], _, _ => []
  | _ :: r, 0, v => v :: r
  | a :: r, n + 1, v => a :: setS r n v
def wipeS : Sg → List Nat → Sg
  | σ, [] => σ
  | σ, v :: vs => setS (wipeS σ vs) v none
/-- names that were not bound ahead are forgotten -/
def mask : Sg → Sg → Sg
  | none :: r, _ :: r' => none :: mask r r'
  | some _ :: r, b :: r' => b :: mask r r'
  | _, _ => []

abbrev Phi := Nat → List PV → Store → Rs PV

/-- a list's or a tuple's items -/
def items (v : PV) (S : Store) : Option (List PV) := match v with
  | .tup xs => some xs
  | .lst xs => some xs
  | .fz xs => some xs
  | .loc i => match S[i]? with
    | some (.lst xs) => some xs
    | _ => none
  | _ => none

/-- a new list: as a value, or as a thing that may change -/
def mkL (m : Bool) (xs : List PV) (S : Store) : Rs PV := match m with
  | true => .ok (.loc S.length) (S ++ [.lst xs])
  | false => .ok (.lst xs) S

/-- a list's places: no list, at most that long -/
def line : Nat := 100000

def b2i (b : Bool) : Int := match b with
  | true => 1
  | false => 0
/-- the number that a scalar is compared by -/
def numOf : PV → Option Int
  | .int i => some i
  | .bl b => some (b2i b)
  | _ => none

mutual
/-- == of plain data -/
def peq : PV → PV → Bool
  | .non, .non => true
  | .bl a, .bl b => a == b
  | .bl a, .int j => b2i a == j
  | .int i, .int j => i == j
  | .int i, .bl b => i == b2i b
  | .str a, .str b => a == b
  | .tup xs, .tup ys => peqs xs ys
  | .lst xs, .lst ys => peqs xs ys
  | _, _ => false
def peqs : List PV → List PV → Bool
  | [], [] => true
  | x :: xs, y :: ys => peq x y && peqs xs ys
  | _, _ => false
end
/-- plain data, at most so deep: no object with an own ==, nothing that may change -/
def isD : Nat → PV → Bool
  | _, .non => true
  | _, .bl _ => true
  | _, .int _ => true
  | _, .str x => x.cps.all (· < 0x110000)
  | k + 1, .tup xs => xs.all (isD k)
  | k + 1, .lst xs => xs.all (isD k)
  | _, _ => false
/-- what stands at a place, as a value -/
def deref (v : PV) (S : Store) : PV := match v with
  | .loc i => match S[i]? with
    | some (.lst xs) => .lst xs
    | _ => v
  | _ => v

def mulOk (i j : Int) : Prop := i.natAbs.log2 + j.natAbs.log2 < 100000000
instance (i j : Int) : Decidable (mulOk i j) := inferInstanceAs (Decidable (_ < _))

def repL (xs : List PV) : Nat → List PV
  | 0 => []
  | n + 1 => xs ++ repL xs n

/-- sizes of a divisor, of what is divided: beyond both the division may go another way -/
def divLine : Nat := 2 ^ 9000
def numLine : Nat := 2 ^ 13500
/-- an operator, by values -/
def binop (o : Bo) (m : Bool) (x y : PV) (S : Store) : Rs PV := match o, x, y with
  | .add, .int i, .int j => .ok (.int (i + j)) S
  | .sub, .int i, .int j => .ok (.int (i - j)) S
  | .mul, .int i, .int j => if mulOk i j then .ok (.int (i * j)) S else .no
  | .fdiv, .int i, .int j => if j = 0 ∨ (divLine ≤ j.natAbs ∧ numLine ≤ i.natAbs) then .no else .ok (.int (i.fdiv j)) S
  | .mod, .int i, .int j => if j = 0 then .no else .ok (.int (i.fmod j)) S
  | .pow, .int i, .int j => if 0 ≤ j ∧ j ≤ 1000 ∧ i.natAbs < 2 ^ 64 then .ok (.int (i ^ j.toNat)) S else .no
  | .add, .tup xs, .tup ys => if xs.length + ys.length ≤ line then .ok (.tup (xs ++ ys)) S else .no
  | .mul, .tup xs, .int j => if (-1000000 ≤ j ∧ j ≤ 1000) ∧ xs.length ≤ 16 then .ok (.tup (repL xs j.toNat)) S else .no
  | .mul, x, .int j => match deref x S with
    | .lst xs => if (-1000000 ≤ j ∧ j ≤ 1000) ∧ xs.length ≤ 16 then mkL m (repL xs j.toNat) S else .no
    | _ => .no
  | .add, x, y => match deref x S, deref y S with
    | .lst xs, .lst ys => if xs.length + ys.length ≤ line then mkL m (xs ++ ys) S else .no
    | _, _ => .no
  | _, _, _ => .no

/-- == -/
def eqv (Φ : Phi) (x y : PV) (S : Store) (k : Bool → Store → Rs PV) : Rs PV := match x with
  | .ins C _ => (Φ (C + 1) [x, y] S).bind fun r S1 => match r with
    | .bl b => k b S1
    | _ => .no
  | _ => if isD 16 (deref x S) = true ∧ isD 16 (deref y S) = true then k (peq (deref x S) (deref y S)) S else match deref x S, deref y S with
    | .lst xs, .lst ys => if xs.length = ys.length then .no else k false S
    | _, _ => .no

def flat : PV → Bool
  | .non => true
  | .bl _ => true
  | .int _ => true
  | .str _ => true
  | _ => false

/-- whether one may ask x in y -/
def inOk (x y : PV) (ys : List PV) : Bool := isD 16 x && ys.all (isD 16) && (match y with
  | .tup _ => flat x && ys.all flat
  | .fz _ => false
  | _ => true)

def cmpop (Φ : Phi) (o : Co) (x y : PV) (S : Store) : Rs PV := match o with
  | .eq => eqv Φ x y S fun b S1 => .ok (.bl b) S1
  | .ne => eqv Φ x y S fun b S1 => .ok (.bl (!b)) S1
  | .isIn => match items y S with
    | some ys => if inOk x y ys = true then .ok (.bl (ys.any fun z => peq z x)) S else .no
    | none => .no
  | .notIn => match items y S with
    | some ys => if inOk x y ys = true then .ok (.bl (!(ys.any fun z => peq z x))) S else .no
    | none => .no
  | o => match x, y with
    | .int i, .int j => .ok (.bl (match o with
      | .lt => decide (i < j)
      | .le => decide (i ≤ j)
      | .gt => decide (j < i)
      | _ => decide (j ≤ i))) S
    | _, _ => .no

/-- isinstance; the class 0 is the one above all errors of the package -/
def isT (x : PV) (S : Store) : Ty → Option Bool
  | .int => match x with
    | .int _ => some true
    | .bl _ => some true
    | .clo _ => none
    | _ => some false
  | .bool => match x with
    | .bl _ => some true
    | .clo _ => none
    | _ => some false
  | .str => match x with
    | .str _ => some true
    | .clo _ => none
    | _ => some false
  | .list => match x with
    | .lst _ => some true
    | .fz _ => some true
    | .loc i => match S[i]? with
      | some (.lst _) => some true
      | some (.dct _) => some false
      | _ => none
    | .clo _ => none
    | _ => some false
  | .tuple => match x with
    | .tup _ => some true
    | .clo _ => none
    | _ => some false
  | .dict => match x with
    | .loc i => match S[i]? with
      | some (.lst _) => some false
      | some (.dct _) => some true
      | _ => none
    | .dic => some true
    | .clo _ => none
    | _ => some false
  | .cls C => match x with
    | .ins D _ => some (D == C)
    | .exc D _ => some (C == 0 || D == C)
    | .loc i => match S[i]? with
      | some (.lst _) => some false
      | some (.dct _) => some false
      | _ => none
    | .clo _ => none
    | _ => some false
def isTs (x : PV) (S : Store) : List Ty → Option Bool
  | [] => some false
  | t :: ts => match isT x S t, isTs x S ts with
    | some a, some b => some (a || b)
    | _, _ => none

/-- truth -/
def truth (v : PV) (S : Store) : Option Bool := match v with
  | .non => some false
  | .bl b => some b
  | .int i => some (decide (i ≠ 0))
  | v => match items v S with
    | some xs => some (!xs.isEmpty)
    | none => none

/-- an index, counted from behind where it is negative -/
def ixN (n : Nat) (i : Int) : Option Nat := if 0 ≤ i then (if i < n then some i.toNat else none) else if -(n : Int) ≤ i then some (i + n).toNat else none
def atI {α : Type} (xs : List α) (i : Int) : Option α := match ixN xs.length i with
  | some j => xs[j]?
  | none => none
def sIx (n d : Nat) : Option Int → Nat
  | none => d
  | some v => if v < 0 then (v + n).toNat else min v.toNat n
def cut {α : Type} (xs : List α) (lo hi : Option Int) : List α := (xs.drop (sIx xs.length 0 lo)).take (sIx xs.length xs.length hi - sIx xs.length 0 lo)

def dkget (k : DK) : List (DK × PV) → Option PV
  | [] => none
  | (j, v) :: r => if k = j then some v else dkget k r
def dkput (k : DK) (v : PV) (l : List (DK × PV)) : List (DK × PV) :=
  if (l.any fun p => decide (p.1 = k)) = true then l.map (fun p => if p.1 = k then (p.1, v) else p) else l ++ [(k, v)]
def dkmerge (l : List (DK × PV)) : List (DK × PV) := l.foldl (fun acc p => dkput p.1 p.2 acc) []
def index (x i : PV) (S : Store) : Rs PV := match i with
  | .int k => (match items x S with
    | some xs => (match atI xs k with
      | some v => .ok v S
      | none => .no)
    | none => (match x with
      | .loc l => (match S[l]? with
        | some (.dct kvs) => (match dkget (.i k) kvs with
          | some v => .ok v S
          | none => .no)
        | _ => .no)
      | _ => .no))
  | _ => .no
/-- o[i] = v -/
def setIx (o i v : PV) (S : Store) : Option Store := match o, i with
  | .loc l, .int k => (match S[l]? with
    | some (.lst xs) => (match ixN xs.length k with
      | some j => some (S.set l (.lst (xs.set j v)))
      | none => none)
    | some (.dct kvs) => if kvs.length < 1000 then some (S.set l (.dct (dkput (.i k) v kvs))) else none
    | _ => none)
  | _, _ => none

def intsOf : List PV → Option (List Int)
  | [] => some []
  | .int i :: r => (match intsOf r with
    | some l => some (i :: l)
    | none => none)
  | _ :: _ => none
def bls : List PV → Option (List Bool)
  | [] => some []
  | .bl i :: r => (match bls r with
    | some l => some (i :: l)
    | none => none)
  | _ :: _ => none
def insI (i : Int) : List Int → List Int
  | [] => [i]
  | j :: r => if i ≤ j then i :: j :: r else j :: insI i r
def sortI : List Int → List Int
  | [] => []
  | i :: r => insI i (sortI r)

def bi1 (b : Bi) (v : PV) (S : Store) : Rs PV := match b with
  | .len => (match items v S with
    | some xs => .ok (.int xs.length) S
    | none => .no)
  | .abs => (match v with
    | .int i => .ok (.int (if i < 0 then -i else i)) S
    | _ => .no)
  | .int => (match v with
    | .int i => .ok (.int i) S
    | .bl b => .ok (.int (b2i b)) S
    | _ => .no)
  | .all => (match deref v S with
    | .lst xs => (match bls xs with
      | some l => .ok (.bl (l.all id)) S
      | none => .no)
    | _ => .no)
  | .any => (match deref v S with
    | .lst xs => (match bls xs with
      | some l => .ok (.bl (l.any id)) S
      | none => .no)
    | _ => .no)
  | .sum => (match items v S with
    | some xs => (match intsOf xs with
      | some l => .ok (.int l.sum) S
      | none => .no)
    | none => .no)
  | .tuple => (match items v S with
    | some xs => .ok (.tup xs) S
    | none => .no)
def bl1 (b : Bl) (m : Bool) (v : PV) (S : Store) : Rs PV := match b with
  | .list => (match items v S with
    | some xs => mkL m xs S
    | none => .no)
  | .sorted => (match deref v S with
    | .lst xs => (match intsOf xs with
      | some l => if l.length < 64 then mkL m ((sortI l).map .int) S else .no
      | none => .no)
    | _ => .no)

def popAt (x : PV) (i : Option Int) (S : Store) : Rs PV := match x with
  | .loc l => (match S[l]? with
    | some (.lst xs) => (match ixN xs.length (i.getD (-1)) with
      | some j => (match xs[j]? with
        | some v => .ok v (S.set l (.lst (xs.eraseIdx j)))
        | none => .no)
      | none => .no)
    | _ => .no)
  | _ => .no
def findD (x : PV) : List PV → Nat → Option Nat
  | [], _ => none
  | y :: r, i => if peq y x = true then some i else findD x r (i + 1)
def indexOf (x y : PV) (S : Store) : Rs PV := match deref x S with
  | .lst xs => if isD 16 y = true ∧ xs.all (isD 16) = true then (match findD y xs 0 with
    | some i => .ok (.int i) S
    | none => .no) else .no
  | _ => .no
/-- a field's place in a class, by the classes that have it -/
def fpos : List (Nat × Nat) → Nat → Option Nat
  | [], _ => none
  | (D, j) :: r, C => if C = D then some j else fpos r C
def fAt (o : Option Nat) (fs : List PV) (S : Store) : Rs PV := match o with
  | some j => (match fs[j]? with
    | some v => .ok v S
    | none => .no)
  | none => .no
def attr (x : PV) (ps : List (Nat × Nat)) (S : Store) : Rs PV := match x with
  | .ins C fs => fAt (fpos ps C) fs S
  | .exc C fs => fAt (fpos ps C) fs S
  | .loc l => (match S[l]? with
    | some (.ins C fs) => fAt (fpos ps C) fs S
    | _ => .no)
  | _ => .no
def rng (lo hi : Int) : List PV := (List.range (hi - lo).toNat).map fun (k : Nat) => PV.int (lo + k)

noncomputable section
/-- what is walked must stand still meanwhile -/
def stand (gs : List PV) (S S' : Store) : Prop := ∀ i, PV.loc i ∈ gs → S'[i]? = S[i]?

/-- a target takes a value; lev evaluates the parts of subscript targets -/
def lcGo (own : List Nat) (σ0 : Sg) (g : Store → Prop) (tg : PV → Sg → Store → Rs Sg) (c : Sg → Store → Rs Bool) (e : Sg → Store → Rs PV) : List PV → List PV → Store → Rs (List PV)
  | [], acc, S => open Classical in if g S then .ok acc S else .no
  | v :: r, acc, S => open Classical in if g S then (match tg v σ0 S with
    | .ok σ1 S1 => (match c σ1 S1 with
      | .ok true S2 => (match e σ1 S2 with
        | .ok w S3 => lcGo own σ0 g tg c e r (acc ++ [w]) S3
        | _ => .no)
      | .ok false S2 => lcGo own σ0 g tg c e r acc S2
      | _ => .no)
    | _ => .no) else .no

inductive Fl where
  | nx | rt (v : PV) | bk | ct

/-! ### small steps -/
def ofO (o : Option PV) (S : Store) : Rs PV := match o with
  | some v => .ok v S
  | none => .no
def negV (x : PV) (S : Store) : Rs PV := match x with
  | .int i => .ok (.int (-i)) S
  | _ => .no
def ifB (x : PV) (a b : Rs PV) : Rs PV := match x with
  | .bl true => a
  | .bl false => b
  | _ => .no
def isNon : PV → Bool
  | .non => true
  | _ => false
def isB (b : Bool) : PV → Bool
  | .bl c => c == b
  | _ => false
def okB (o : Option Bool) (S : Store) : Rs PV := match o with
  | some b => .ok (.bl b) S
  | none => .no
def notV (x : PV) (S : Store) : Rs PV := match x with
  | .bl b => .ok (.bl (!b)) S
  | _ => .no
def slcV (m : Bool) (x : PV) (l h : Option Int) (S : Store) : Rs PV := match x with
  | .tup xs => .ok (.tup (cut xs l h)) S
  | x => (match deref x S with
    | .lst xs => mkL m (cut xs l h) S
    | _ => .no)
def okI (x : PV) (S : Store) : Rs (Option Int) := match x with
  | .int i => .ok (some i) S
  | _ => .no
def dgsV (x : PV) (k : String) (S : Store) : Rs PV := match x with
  | .loc l => (match S[l]? with
    | some (.dct kvs) => (match dkget (.s k) kvs with
      | some v => .ok v S
      | none => .no)
    | _ => .no)
  | _ => .no
def lrgV (m : Bool) (x : PV) (S : Store) : Rs PV := match x with
  | .int j => if j ≤ 100000 ∧ -100000 ≤ j then mkL m (rng 0 j) S else .no
  | _ => .no
def mmV (mx : Bool) (x y : PV) (S : Store) : Rs PV := match x, y with
  | .int i, .int j => .ok (.int (match mx with
    | true => if j > i then j else i
    | false => if j < i then j else i)) S
  | _, _ => .no
def popiV (x y : PV) (S : Store) : Rs PV := match y with
  | .int k => popAt x (some k) S
  | _ => .no
def catchV (r : Rs PV) : Rs PV := match r with
  | .ok _ S1 => .ok .non S1
  | .ex x S1 => .ok x S1
  | .no => .no
def starV (o : Option (List PV)) (f : List PV → Rs (List PV)) : Rs (List PV) := match o with
  | some ys => f ys
  | none => .no
def okT (o : Option Bool) (S : Store) : Rs Bool := match o with
  | some b => .ok b S
  | none => .no
def itV (x : PV) (S : Store) (o : Option (List PV)) (f : List PV → List PV) : Rs (List PV × List PV) := match o with
  | some xs => .ok ([x], f xs) S
  | none => .no
def rng1V (x : PV) (S : Store) : Rs (List PV × List PV) := match x with
  | .int j => if j ≤ 100000 ∧ -100000 ≤ j then .ok ([], rng 0 j) S else .no
  | _ => .no
def rng2V (x y : PV) (S : Store) : Rs (List PV × List PV) := match x, y with
  | .int i, .int j => if (j ≤ 100000 ∧ -100000 ≤ j) ∧ (i ≤ 100000 ∧ -100000 ≤ i) then .ok ([], rng i j) S else .no
  | _, _ => .no
def zipV (x y : PV) (S : Store) (o p : Option (List PV)) : Rs (List PV × List PV) := match o, p with
  | some xs, some ys => .ok ([x, y], (xs.zip ys).map fun p => .tup [p.1, p.2]) S
  | _, _ => .no
def isLst (x : PV) (S : Store) : Bool := match deref x S with
  | .lst _ => true
  | _ => false
def locL (x : PV) (S : Store) : Bool := match x with
  | .loc i => (match S[i]? with
    | some (.lst _) => true
    | _ => false)
  | _ => false
def lstG {α : Type} (b : Bool) (r : Rs α) : Rs α := match b with
  | true => r
  | false => .no
def okS (o : Option Store) (σ : Sg) : Rs Sg := match o with
  | some S3 => .ok σ S3
  | none => .no
def tupV : PV → Option (List PV)
  | .tup xs => some xs
  | _ => none
def lenG {α : Type} (xs : List PV) (r : Rs α) : Rs α := if xs.length ≤ line then r else .no
def unpV (o : Option (List PV)) (f : List PV → Rs Sg) : Rs Sg := match o with
  | some xs => f xs
  | none => .no
def seqG (r : Rs Sg) (f : Sg → Store → Rs Sg) : Rs Sg := match r with
  | .ok σ1 S1 => f σ1 S1
  | _ => .no

mutual
def ev (Φ : Phi) : E → Sg → Store → Rs PV
  | .kn, _, S => .ok .non S
  | .kb b, _, S => .ok (.bl b) S
  | .ki i, _, S => .ok (.int i) S
  | .ks s, _, S => .ok (.str s) S
  | .x i, σ, S => ofO (getS σ i) S
  | .gi _ i, _, S => .ok (.int i) S
  | .bin o m a b, σ, S => (ev Φ a σ S).bind fun x S1 => (ev Φ b σ S1).bind fun y S2 => binop o m x y S2
  | .neg a, σ, S => (ev Φ a σ S).bind negV
  | .cmp o a b, σ, S => (ev Φ a σ S).bind fun x S1 => (ev Φ b σ S1).bind fun y S2 => cmpop Φ o x y S2
  | .chn o p a b c, σ, S => (ev Φ a σ S).bind fun x S1 => (ev Φ b σ S1).bind fun y S2 => (cmpop Φ o x y S2).bind fun r S3 => ifB r ((ev Φ c σ S3).bind fun z S4 => cmpop Φ p y z S4) (.ok (.bl false) S3)
  | .isn neg a, σ, S => (ev Φ a σ S).bind fun x S1 => .ok (.bl (isNon x != neg)) S1
  | .isb neg b a, σ, S => (ev Φ a σ S).bind fun x S1 => .ok (.bl (isB b x != neg)) S1
  | .isi a ts, σ, S => (ev Φ a σ S).bind fun x S1 => okB (isTs x S1 ts) S1
  | .and a b, σ, S => (ev Φ a σ S).bind fun x S1 => ifB x (ev Φ b σ S1) (.ok (.bl false) S1)
  | .or a b, σ, S => (ev Φ a σ S).bind fun x S1 => ifB x (.ok (.bl true) S1) (ev Φ b σ S1)
  | .not a, σ, S => (ev Φ a σ S).bind notV
  | .ite c a b, σ, S => (evt Φ c σ S).bind fun k S1 => (match k with
    | true => ev Φ a σ S1
    | false => ev Φ b σ S1)
  | .tup es, σ, S => (evs Φ es σ S).bind fun xs S1 => if xs.length ≤ line then .ok (.tup xs) S1 else .no
  | .lst m es, σ, S => (evs Φ es σ S).bind fun xs S1 => if xs.length ≤ line then mkL m xs S1 else .no
  | .dct ks es, σ, S => (evs Φ es σ S).bind fun xs S1 => .ok (.loc S1.length) (S1 ++ [.dct (dkmerge (ks.zip xs))])
  | .idx a i, σ, S => (ev Φ a σ S).bind fun x S1 => (ev Φ i σ S1).bind fun y S2 => index x y S2
  | .slc m a lo hi, σ, S => (ev Φ a σ S).bind fun x S1 => (evo Φ lo σ S1).bind fun l S2 => (evo Φ hi σ S2).bind fun h S3 => slcV m x l h S3
  | .dgs a k, σ, S => (ev Φ a σ S).bind fun x S1 => dgsV x k S1
  | .att a ps, σ, S => (ev Φ a σ S).bind fun x S1 => attr x ps S1
  | .call f es, σ, S => (evs Φ es σ S).bind fun xs S1 => Φ f xs S1
  | .callk f ks es, σ, S => (evs Φ es σ S).bind fun xs S1 => Φ f (ks.filterMap fun k => xs[k]?) S1
  | .bi b a, σ, S => (ev Φ a σ S).bind fun x S1 => bi1 b x S1
  | .bl b m a, σ, S => (ev Φ a σ S).bind fun x S1 => bl1 b m x S1
  | .lrg m a, σ, S => (ev Φ a σ S).bind fun x S1 => lrgV m x S1
  | .mm mx a b, σ, S => (ev Φ a σ S).bind fun x S1 => (ev Φ b σ S1).bind fun y S2 => mmV mx x y S2
  | .popi a i, σ, S => (ev Φ a σ S).bind fun x S1 => lstG (isLst x S1) ((ev Φ i σ S1).bind fun y S2 => popiV x y S2)
  | .pop a, σ, S => (ev Φ a σ S).bind fun x S1 => popAt x none S1
  | .index a b, σ, S => (ev Φ a σ S).bind fun x S1 => lstG (isLst x S1) ((ev Φ b σ S1).bind fun y S2 => indexOf x y S2)
  | .lc m own tg it c e, σ, S => (evi Φ it σ S).bind fun w S1 =>
      lenG w.2 ((lcGo own (wipeS σ own) (stand w.1 S1) (fun v σ S => evg Φ tg v σ S) (fun σ S => evc Φ c σ S) (fun σ S => ev Φ e σ S) w.2 [] S1).bind fun xs S2 => mkL m xs S2)
  | .clo k, _, S => .ok (.clo k) S
  | .callv f es, σ, S => (ev Φ f σ S).bind fun x S1 => (match x with
    | .clo k => (evs Φ es σ S1).bind fun xs S2 => Φ k xs S2
    | _ => .no)
  | .caught e, σ, S => catchV (ev Φ e σ S)
def evs (Φ : Phi) : Es → Sg → Store → Rs (List PV)
  | .nil, _, S => .ok [] S
  | .cons e r, σ, S => (ev Φ e σ S).bind fun x S1 => (evs Φ r σ S1).bind fun xs S2 => .ok (x :: xs) S2
  | .star e r, σ, S => (ev Φ e σ S).bind fun x S1 => starV (items x S1) fun ys => (evs Φ r σ S1).bind fun xs S2 => .ok (ys ++ xs) S2
def evo (Φ : Phi) : Eo → Sg → Store → Rs (Option Int)
  | .none, _, S => .ok none S
  | .some e, σ, S => (ev Φ e σ S).bind okI
def evt (Φ : Phi) : Tst → Sg → Store → Rs Bool
  | .v e, σ, S => (ev Φ e σ S).bind fun x S1 => okT (truth x S1) S1
  | .and a b, σ, S => (evt Φ a σ S).bind fun k S1 => (match k with
    | true => evt Φ b σ S1
    | false => .ok false S1)
  | .or a b, σ, S => (evt Φ a σ S).bind fun k S1 => (match k with
    | true => .ok true S1
    | false => evt Φ b σ S1)
  | .not a, σ, S => (evt Φ a σ S).bind fun k S1 => .ok (!k) S1
def evc (Φ : Phi) : Ct → Sg → Store → Rs Bool
  | .none, _, S => .ok true S
  | .some c, σ, S => evt Φ c σ S
def evi (Φ : Phi) : It → Sg → Store → Rs (List PV × List PV)
  | .e a, σ, S => (ev Φ a σ S).bind fun x S1 => itV x S1 (items x S1) fun xs => xs
  | .range1 a, σ, S => (ev Φ a σ S).bind fun x S1 => rng1V x S1
  | .range2 a b, σ, S => (ev Φ a σ S).bind fun x S1 => (ev Φ b σ S1).bind fun y S2 => rng2V x y S2
  | .zip a b, σ, S => (ev Φ a σ S).bind fun x S1 => (ev Φ b σ S1).bind fun y S2 => zipV x y S2 (items x S2) (items y S2)
  | .enum a, σ, S => (ev Φ a σ S).bind fun x S1 => itV x S1 (items x S1) fun xs => xs.zipIdx.map fun p => .tup [.int p.2, p.1]
def evg (Φ : Phi) : Tg → PV → Sg → Store → Rs Sg
  | .x i, v, σ, S => .ok (setS σ i (some v)) S
  | .sub o i, v, σ, S => (ev Φ o σ S).bind fun x S1 => (ev Φ i σ S1).bind fun y S2 => okS (setIx x y v S2) σ
  | .tup l, v, σ, S => unpV (tupV v) fun xs => evgs Φ l xs σ S
def evgs (Φ : Phi) : Tgs → List PV → Sg → Store → Rs Sg
  | .nil, [], σ, S => .ok σ S
  | .cons t r, v :: vs, σ, S => seqG (evg Φ t v σ S) fun σ1 S1 => evgs Φ r vs σ1 S1
  | _, _, _, _ => .no
end
def setAll : Sg → List Nat → List PV → Sg
  | σ, i :: is, v :: vs => setAll (setS σ i (some v)) is vs
  | σ, _, _ => σ

/-- a for's turns -/
def forGo (g : Store → Prop) (tg : PV → Sg → Store → Rs Sg) (b : Sg → Store → Rs (Fl × Sg)) : List PV → Sg → Store → Rs (Fl × Sg)
  | [], σ, S => open Classical in if g S then .ok (.nx, σ) S else .no
  | v :: r, σ, S => open Classical in if g S then (match tg v σ S with
    | .ok σ1 S1 => (match b σ1 S1 with
      | .ok (.nx, σ2) S2 => forGo g tg b r (mask σ σ2) S2
      | .ok (.ct, σ2) S2 => forGo g tg b r (mask σ σ2) S2
      | .ok (.bk, σ2) S2 => .ok (.nx, mask σ σ2) S2
      | .ok (.rt v, σ2) S2 => .ok (.rt v, σ2) S2
      | .ex e S2 => .ex e S2
      | .no => .no)
    | _ => .no) else .no
/-- a while's turns, n at most -/
def whN (c : Sg → Store → Rs Bool) (b : Sg → Store → Rs (Fl × Sg)) : Nat → Sg → Store → Option (Rs (Fl × Sg))
  | 0, _, _ => none
  | n + 1, σ, S => match c σ S with
    | .ok true S1 => (match b σ S1 with
      | .ok (.nx, σ2) S2 => whN c b n (mask σ σ2) S2
      | .ok (.ct, σ2) S2 => whN c b n (mask σ σ2) S2
      | .ok (.bk, σ2) S2 => some (.ok (.nx, mask σ σ2) S2)
      | .ok (.rt v, σ2) S2 => some (.ok (.rt v, σ2) S2)
      | .ex e S2 => some (.ex e S2)
      | .no => some .no)
    | .ok false S1 => some (.ok (.nx, σ) S1)
    | .ex e S1 => some (.ex e S1)
    | .no => some .no
def whl (c : Sg → Store → Rs Bool) (b : Sg → Store → Rs (Fl × Sg)) (σ : Sg) (S : Store) : Rs (Fl × Sg) :=
  open Classical in if h : ∃ n r, whN c b n σ S = some r then Classical.choose (Classical.choose_spec h) else .no
theorem whN_mono {c : Sg → Store → Rs Bool} {b : Sg → Store → Rs (Fl × Sg)} : ∀ {n m : Nat} {σ : Sg} {S : Store} {r : Rs (Fl × Sg)}, whN c b n σ S = some r → n ≤ m → whN c b m σ S = some r
  | 0, _, _, _, _, h, _ => by simp [whN] at h
  | n + 1, 0, _, _, _, _, h => by omega
  | n + 1, m + 1, σ, S, r, h, hm => by
    unfold whN at h ⊢
    split at h
    · split at h
      · exact whN_mono h (by omega)
      · exact whN_mono h (by omega)
      all_goals exact h
    all_goals exact h
theorem whl_of {c : Sg → Store → Rs Bool} {b : Sg → Store → Rs (Fl × Sg)} {n : Nat} {σ : Sg} {S : Store} {r : Rs (Fl × Sg)} (h : whN c b n σ S = some r) : whl c b σ S = r := by
  have hx : ∃ n r, whN c b n σ S = some r := ⟨n, r, h⟩
  unfold whl
  rw [dif_pos hx]
  have h2 := Classical.choose_spec (Classical.choose_spec hx)
  have h3 := whN_mono h2 (Nat.le_max_left (Classical.choose hx) n)
  have h4 := whN_mono h (Nat.le_max_right (Classical.choose hx) n)
  rw [h3] at h4
  exact Option.some.inj h4
/-- a while, one turn -/
theorem whl_eq (c : Sg → Store → Rs Bool) (b : Sg → Store → Rs (Fl × Sg)) (σ : Sg) (S : Store) : whl c b σ S = match c σ S with
    | .ok true S1 => (match b σ S1 with
      | .ok (.nx, σ2) S2 => whl c b (mask σ σ2) S2
      | .ok (.ct, σ2) S2 => whl c b (mask σ σ2) S2
      | .ok (.bk, σ2) S2 => .ok (.nx, mask σ σ2) S2
      | .ok (.rt v, σ2) S2 => .ok (.rt v, σ2) S2
      | .ex e S2 => .ex e S2
      | .no => .no)
    | .ok false S1 => .ok (.nx, σ) S1
    | .ex e S1 => .ex e S1
    | .no => .no := by
  have go : ∀ (σ2 : Sg) (S2 : Store), (∀ n, whN c b (n + 1) σ S = whN c b n σ2 S2) → whl c b σ S = whl c b σ2 S2 := fun σ2 S2 e => by
    by_cases h : ∃ n r, whN c b n σ2 S2 = some r
    · obtain ⟨n, r, h⟩ := h
      rw [whl_of h]
      exact whl_of (n := n + 1) (by rw [e]; exact h)
    · have h2 : ¬ ∃ n r, whN c b n σ S = some r := by
        rintro ⟨n, r, q⟩
        cases n with
        | zero => simp [whN] at q
        | succ n => rw [e] at q; exact h ⟨n, r, q⟩
      unfold whl
      rw [dif_neg h, dif_neg h2]
  split
  · rename_i S1 hc
    split
    · rename_i σ2 S2 hb
      exact go _ _ fun n => by simp only [whN, hc, hb]
    · rename_i σ2 S2 hb
      exact go _ _ fun n => by simp only [whN, hc, hb]
    all_goals (rename_i hb; exact whl_of (n := 1) (by simp only [whN, hc, hb]))
  all_goals (rename_i hc; exact whl_of (n := 1) (by simp only [whN, hc]))

def augI (x y : PV) : Option PV := match x, y with
  | .int i, .int j => some (.int (i + j))
  | _, _ => none
def setDk (o : PV) (k : String) (v : PV) (S : Store) : Option Store := match o with
  | .loc l => (match S[l]? with
    | some (.dct kvs) => if kvs.length < 1000 then some (S.set l (.dct (dkput (.s k) v kvs))) else none
    | _ => none)
  | _ => none
def setAttr (o : PV) (C j : Nat) (v : PV) (S : Store) : Option Store := match o with
  | .loc l => (match S[l]? with
    | some (.ins D fs) => if D = C ∧ fs.length = j then some (S.set l (.ins D (fs ++ [v]))) else none
    | _ => none)
  | _ => none
def app (o v : PV) (S : Store) : Option Store := match o with
  | .loc l => (match S[l]? with
    | some (.lst xs) => if xs.length < line then some (S.set l (.lst (xs ++ [v]))) else none
    | _ => none)
  | _ => none

def nxG (r : Rs Sg) : Rs (Fl × Sg) := match r with
  | .ok σ1 S2 => .ok (.nx, σ1) S2
  | _ => .no
def nxS (o : Option Store) (σ : Sg) : Rs (Fl × Sg) := match o with
  | some S3 => .ok (.nx, σ) S3
  | none => .no
def augV (x y : PV) (o : Option PV) (σ : Sg) (S : Store) : Rs (Fl × Sg) := match o with
  | some u => nxS (setIx x y u S) σ
  | none => .no
def seqT (p : Fl × Sg) (S : Store) (f : Sg → Rs (Fl × Sg)) : Rs (Fl × Sg) := match p with
  | (.nx, σ1) => f σ1
  | p => .ok p S

mutual
def exT (Φ : Phi) : T → Sg → Store → Rs (Fl × Sg)
  | .set tg e, σ, S => (ev Φ e σ S).bind fun x S1 => nxG (evg Φ tg x σ S1)
  | .par is es, σ, S => (evs Φ es σ S).bind fun xs S1 => if xs.length = is.length then .ok (.nx, setAll σ is xs) S1 else .no
  | .setDk o k e, σ, S => (ev Φ e σ S).bind fun v S1 => (ev Φ o σ S1).bind fun x S2 => nxS (setDk x k v S2) σ
  | .augIx o i e, σ, S => (ev Φ o σ S).bind fun x S1 => (ev Φ i σ S1).bind fun y S2 => lstG (locL x S2) ((index x y S2).bind fun z S3 => (ev Φ e σ S3).bind fun w S4 => augV x y (augI z w) σ S4)
  | .setAt o C j e, σ, S => (ev Φ e σ S).bind fun v S1 => (ev Φ o σ S1).bind fun x S2 => nxS (setAttr x C j v S2) σ
  | .ex e, σ, S => (ev Φ e σ S).bind fun _ S1 => .ok (.nx, σ) S1
  | .app o e, σ, S => (ev Φ o σ S).bind fun x S1 => lstG (isLst x S1) ((ev Φ e σ S1).bind fun v S2 => nxS (app x v S2) σ)
  | .ifs c a b, σ, S => (evt Φ c σ S).bind fun k S1 => (match k with
    | true => exs Φ a σ S1
    | false => exs Φ b σ S1)
  | .for tg it b, σ, S => (evi Φ it σ S).bind fun w S1 => forGo (stand w.1 S1) (fun v σ S => evg Φ tg v σ S) (fun σ S => exs Φ b σ S) w.2 σ S1
  | .while c b, σ, S => whl (fun σ S => evt Φ c σ S) (fun σ S => exs Φ b σ S) σ S
  | .ret e, σ, S => (ev Φ e σ S).bind fun x S1 => .ok (.rt x, σ) S1
  | .retN, σ, S => .ok (.rt .non, σ) S
  | .pass, σ, S => .ok (.nx, σ) S
  | .raise C n es, σ, S => (evs Φ es σ S).bind fun xs S1 => .ex (.exc C (xs.take n)) S1
def exs (Φ : Phi) : Ts → Sg → Store → Rs (Fl × Sg)
  | .nil, σ, S => .ok (.nx, σ) S
  | .cons t r, σ, S => (exT Φ t σ S).bind fun p S1 => seqT p S1 fun σ1 => exs Φ r σ1 S1
end

mutual
/-- nothing that may change is in it -/
def lf : PV → Bool
  | .tup xs => lfs xs
  | .lst xs => lfs xs
  | .fz xs => lfs xs
  | .ins _ fs => lfs fs
  | .exc _ fs => lfs fs
  | .loc _ => false
  | _ => true
def lfs : List PV → Bool
  | [] => true
  | x :: xs => lf x && lfs xs
end
mutual
/-- what may change in it stands below n -/
def lb (n : Nat) : PV → Bool
  | .tup xs => lbs n xs
  | .lst xs => lbs n xs
  | .fz xs => lbs n xs
  | .ins _ fs => lbs n fs
  | .exc _ fs => lbs n fs
  | .loc i => decide (i < n)
  | _ => true
def lbs (n : Nat) : List PV → Bool
  | [] => true
  | x :: xs => lb n x && lbs n xs
end
def clb (n : Nat) : Cl → Bool
  | .lst xs => lbs n xs
  | .dct kvs => lbs n (kvs.map (·.2))
  | .ins _ fs => lbs n fs
/-- a value behind a def: what was made in it stands still from now on -/
def frz (S : Store) (n : Nat) : Nat → PV → Option PV
  | 0, v => if lf v then some v else none
  | k + 1, v => if lf v then some v else match v with
    | .loc i => if i < n then some v else (match S[i]? with
      | some (.lst xs) => (xs.mapM (frz S n k)).map .lst
      | some (.ins C fs) => (fs.mapM (frz S n k)).map (.ins C)
      | some (.dct _) => some .dic
      | none => none)
    | .tup xs => (xs.mapM (frz S n k)).map .tup
    | .lst xs => (xs.mapM (frz S n k)).map .lst
    | .ins C fs => (fs.mapM (frz S n k)).map (.ins C)
    | .exc C fs => (fs.mapM (frz S n k)).map (.exc C)
    | _ => none
/-- what stood ahead of a def names nothing that was made in it -/
def old (n : Nat) (S S' : Store) : Prop := n ≤ S'.length ∧ ∀ i c, i < n → S'[i]? = some c → S[i]? = some c ∨ clb n c = true
def leave (n : Nat) (S S' : Store) (v : PV) : Rs PV := open Classical in if old n S S' then (match frz S' n 8 v with
  | some w => .ok w (S'.take n)
  | none => .no) else .no
/-- a def's end -/
def fin (S : Store) (r : Rs (Fl × Sg)) : Rs PV := match r with
  | .ok (.rt v, _) S' => leave S.length S S' v
  | .ok (.nx, _) S' => leave S.length S S' .non
  | .ok _ _ => .no
  | .ex e S' => open Classical in if old S.length S S' ∧ lf e = true then .ex e (S'.take S.length) else .no
  | .no => .no

/-- a def's end, where what it made goes on being changed -/
def finK (r : Rs (Fl × Sg)) : Rs PV := match r with
  | .ok (.rt v, _) S' => .ok v S'
  | .ok (.nx, _) S' => .ok .non S'
  | .ok _ _ => .no
  | .ex e S' => .ex e S'
  | .no => .no

inductive FD where
  | fn (np nl : Nat) (b : Ts) | fnk (np nl : Nat) (b : Ts) | lam (np nl : Nat) (e : E) | cls (np nl : Nat) (b : Ts)
/-- a def, one that leaves what it made as it is -/
def mkFn (kp : Bool) (np nl : Nat) (b : Ts) : FD := match kp with
  | true => .fnk np nl b
  | false => .fn np nl b
def startS (nl : Nat) (vs : List PV) : Sg := vs.map some ++ List.replicate (nl - vs.length) none
def runF (Φ : Phi) (d : FD) (f : Nat) (vs : List PV) (S : Store) : Rs PV := match d with
  | .fn np nl b => if vs.length = np then fin S (exs Φ b (startS nl vs) S) else .no
  | .fnk np nl b => if vs.length = np then finK (exs Φ b (startS nl vs) S) else .no
  | .lam np nl e => if vs.length = np then fin S ((ev Φ e (startS nl vs) S).bind fun v S1 => .ok (.rt v, []) S1) else .no
  | .cls np nl b => if vs.length + 1 = np then (match exs Φ b (startS nl (.loc S.length :: vs)) (S ++ [.ins f []]) with
    | .ok (.nx, _) S' => leave S.length S S' (.loc S.length)
    | .ex e S' => open Classical in if old S.length S S' ∧ lf e = true then .ex e (S'.take S.length) else .no
    | _ => .no) else .no
def phi (U : Nat → Option FD) : Nat → Phi
  | 0, _, _, _ => .no
  | n + 1, f, vs, S => match U f with
    | some d => runF (phi U n) d f vs S
    | none => .no
end
end Sv
end

section
set_option linter.all false
set_option maxRecDepth 10000
/-! plain lemmas about the evaluator -/
namespace Sv
open PySem
variable {U : Nat → Option FD}
theorem phi_succ {n f : Nat} {d : FD} {vs : List PV} {S : Store} (h : U f = some d) : phi U (n + 1) f vs S = runF (phi U n) d f vs S := by
  show (match U f with | some d => _ | none => _) = _
  rw [h]
/-! ### the evaluator, node by node -/
section
variable {Φ : Phi} {σ : Sg} {S : Store}
@[simp] theorem bind_ok' {α β : Type} (a : α) (S : Store) (f : α → Store → Rs β) : (Rs.ok a S).bind f = f a S := (rfl)
@[simp] theorem bind_ex' {α β : Type} (e : PV) (S : Store) (f : α → Store → Rs β) : (Rs.ex e S).bind f = .ex e S := (rfl)
@[simp] theorem bind_no' {α β : Type} (f : α → Store → Rs β) : (Rs.no).bind f = .no := (rfl)
@[simp] theorem ev_kn : ev Φ .kn σ S = .ok .non S := (rfl)
@[simp] theorem ev_kb {b} : ev Φ (.kb b) σ S = .ok (.bl b) S := (rfl)
@[simp] theorem ev_ki {i} : ev Φ (.ki i) σ S = .ok (.int i) S := (rfl)
@[simp] theorem ev_ks {s} : ev Φ (.ks s) σ S = .ok (.str s) S := (rfl)
@[simp] theorem ev_gi {n i} : ev Φ (.gi n i) σ S = .ok (.int i) S := (rfl)
@[simp] theorem ev_clo {k} : ev Φ (.clo k) σ S = .ok (.clo k) S := (rfl)
@[simp] theorem ofO_some {v : PV} {S : Store} : ofO (some v) S = .ok v S := (rfl)
@[simp] theorem ofO_none {S : Store} : ofO none S = .no := (rfl)
@[simp] theorem ev_x {i} : ev Φ (.x i) σ S = ofO (getS σ i) S := (rfl)
@[simp] theorem ev_bin {o m a b} : ev Φ (.bin o m a b) σ S = (ev Φ a σ S).bind fun x S1 => (ev Φ b σ S1).bind fun y S2 => binop o m x y S2 := (rfl)
@[simp] theorem negV_int {i : Int} {S : Store} : negV (.int i) S = .ok (.int (-i)) S := (rfl)
@[simp] theorem ev_neg {a} : ev Φ (.neg a) σ S = (ev Φ a σ S).bind negV := (rfl)
@[simp] theorem ev_cmp {o a b} : ev Φ (.cmp o a b) σ S = (ev Φ a σ S).bind fun x S1 => (ev Φ b σ S1).bind fun y S2 => cmpop Φ o x y S2 := (rfl)
@[simp] theorem ifB_true {a b : Rs PV} : ifB (.bl true) a b = a := (rfl)
@[simp] theorem ifB_false {a b : Rs PV} : ifB (.bl false) a b = b := (rfl)
theorem ifB_bl {k : Bool} {a b : Rs PV} : ifB (.bl k) a b = if k = true then a else b := by cases k <;> rfl
@[simp] theorem ev_chn {o p a b c} : ev Φ (.chn o p a b c) σ S = (ev Φ a σ S).bind fun x S1 => (ev Φ b σ S1).bind fun y S2 => (cmpop Φ o x y S2).bind fun r S3 => ifB r ((ev Φ c σ S3).bind fun z S4 => cmpop Φ p y z S4) (.ok (.bl false) S3) := (rfl)
@[simp] theorem ev_isn {neg a} : ev Φ (.isn neg a) σ S = (ev Φ a σ S).bind fun x S1 => .ok (.bl (isNon x != neg)) S1 := by
  refine congrArg (Rs.bind _) ?_
  funext x S1
  cases x <;> cases neg <;> rfl
@[simp] theorem ev_isb {neg b a} : ev Φ (.isb neg b a) σ S = (ev Φ a σ S).bind fun x S1 => .ok (.bl (isB b x != neg)) S1 := (rfl)
@[simp] theorem okB_some {b : Bool} {S : Store} : okB (some b) S = .ok (.bl b) S := (rfl)
@[simp] theorem ev_isi {a ts} : ev Φ (.isi a ts) σ S = (ev Φ a σ S).bind fun x S1 => okB (isTs x S1 ts) S1 := (rfl)
@[simp] theorem ev_and {a b} : ev Φ (.and a b) σ S = (ev Φ a σ S).bind fun x S1 => ifB x (ev Φ b σ S1) (.ok (.bl false) S1) := (rfl)
@[simp] theorem ev_or {a b} : ev Φ (.or a b) σ S = (ev Φ a σ S).bind fun x S1 => ifB x (.ok (.bl true) S1) (ev Φ b σ S1) := (rfl)
@[simp] theorem notV_bl {b : Bool} {S : Store} : notV (.bl b) S = .ok (.bl (!b)) S := (rfl)
@[simp] theorem ev_not {a} : ev Φ (.not a) σ S = (ev Φ a σ S).bind notV := (rfl)
@[simp] theorem ev_ite {c a b} : ev Φ (.ite c a b) σ S = (evt Φ c σ S).bind fun k S1 => bif k then ev Φ a σ S1 else ev Φ b σ S1 := by
  refine congrArg (Rs.bind _) ?_
  funext k S1
  cases k <;> rfl
@[simp] theorem ev_tup {es} : ev Φ (.tup es) σ S = (evs Φ es σ S).bind fun xs S1 => if xs.length ≤ line then .ok (.tup xs) S1 else .no := (rfl)
@[simp] theorem ev_lst {m es} : ev Φ (.lst m es) σ S = (evs Φ es σ S).bind fun xs S1 => if xs.length ≤ line then mkL m xs S1 else .no := (rfl)
@[simp] theorem ev_dct {ks es} : ev Φ (.dct ks es) σ S = (evs Φ es σ S).bind fun xs S1 => .ok (.loc S1.length) (S1 ++ [.dct (dkmerge (ks.zip xs))]) := (rfl)
@[simp] theorem ev_idx {a i} : ev Φ (.idx a i) σ S = (ev Φ a σ S).bind fun x S1 => (ev Φ i σ S1).bind fun y S2 => index x y S2 := (rfl)
@[simp] theorem slcV_tup {m xs l h} {S : Store} : slcV m (.tup xs) l h S = .ok (.tup (cut xs l h)) S := (rfl)
@[simp] theorem slcV_lst {m xs l h} {S : Store} : slcV m (.lst xs) l h S = mkL m (cut xs l h) S := (rfl)
@[simp] theorem ev_slc {m a lo hi} : ev Φ (.slc m a lo hi) σ S = (ev Φ a σ S).bind fun x S1 => (evo Φ lo σ S1).bind fun l S2 => (evo Φ hi σ S2).bind fun h S3 => slcV m x l h S3 := (rfl)
@[simp] theorem evo_none : evo Φ .none σ S = .ok none S := (rfl)
@[simp] theorem okI_int {i : Int} {S : Store} : okI (.int i) S = .ok (some i) S := (rfl)
@[simp] theorem evo_some {e} : evo Φ (.some e) σ S = (ev Φ e σ S).bind okI := (rfl)
theorem dgsV_of {l : Nat} {k : String} {S : Store} {kvs : List (DK × PV)} {v : PV} (h : S[l]? = some (.dct kvs)) (hk : dkget (.s k) kvs = some v) : dgsV (.loc l) k S = .ok v S := by
  simp [dgsV, h, hk]
@[simp] theorem ev_dgs {a k} : ev Φ (.dgs a k) σ S = (ev Φ a σ S).bind fun x S1 => dgsV x k S1 := (rfl)
@[simp] theorem ev_att {a ps} : ev Φ (.att a ps) σ S = (ev Φ a σ S).bind fun x S1 => attr x ps S1 := (rfl)
@[simp] theorem ev_call {f es} : ev Φ (.call f es) σ S = (evs Φ es σ S).bind fun xs S1 => Φ f xs S1 := (rfl)
@[simp] theorem ev_callk {f ks es} : ev Φ (.callk f ks es) σ S = (evs Φ es σ S).bind fun xs S1 => Φ f (ks.filterMap fun k => xs[k]?) S1 := (rfl)
@[simp] theorem ev_bi {b a} : ev Φ (.bi b a) σ S = (ev Φ a σ S).bind fun x S1 => bi1 b x S1 := (rfl)
@[simp] theorem ev_bl {b m a} : ev Φ (.bl b m a) σ S = (ev Φ a σ S).bind fun x S1 => bl1 b m x S1 := (rfl)
@[simp] theorem ev_lrg {m a} : ev Φ (.lrg m a) σ S = (ev Φ a σ S).bind fun x S1 => lrgV m x S1 := (rfl)
theorem lrgV_int {m : Bool} {j : Int} {S : Store} (h : j ≤ 100000 ∧ -100000 ≤ j) : lrgV m (.int j) S = mkL m (rng 0 j) S := if_pos h
@[simp] theorem ev_mm {mx a b} : ev Φ (.mm mx a b) σ S = (ev Φ a σ S).bind fun x S1 => (ev Φ b σ S1).bind fun y S2 => mmV mx x y S2 := (rfl)
@[simp] theorem mmV_max {i j : Int} {S : Store} : mmV true (.int i) (.int j) S = .ok (.int (if j > i then j else i)) S := (rfl)
@[simp] theorem mmV_min {i j : Int} {S : Store} : mmV false (.int i) (.int j) S = .ok (.int (if j < i then j else i)) S := (rfl)
@[simp] theorem popiV_int {x : PV} {k : Int} {S : Store} : popiV x (.int k) S = popAt x (some k) S := (rfl)
@[simp] theorem ev_popi {a i} : ev Φ (.popi a i) σ S = (ev Φ a σ S).bind fun x S1 => lstG (isLst x S1) ((ev Φ i σ S1).bind fun y S2 => popiV x y S2) := (rfl)
@[simp] theorem ev_pop {a} : ev Φ (.pop a) σ S = (ev Φ a σ S).bind fun x S1 => popAt x none S1 := (rfl)
@[simp] theorem ev_index {a b} : ev Φ (.index a b) σ S = (ev Φ a σ S).bind fun x S1 => lstG (isLst x S1) ((ev Φ b σ S1).bind fun y S2 => indexOf x y S2) := (rfl)
@[simp] theorem lstG_true {α : Type} {r : Rs α} : lstG true r = r := (rfl)
theorem isLst_loc {i : Nat} {S : Store} {xs : List PV} (h : S[i]? = some (.lst xs)) : isLst (.loc i) S = true := by simp [isLst, deref, h]
@[simp] theorem isLst_lst {xs : List PV} {S : Store} : isLst (.lst xs) S = true := (rfl)
theorem ev_lc {m own tg it c e} : ev Φ (.lc m own tg it c e) σ S = (evi Φ it σ S).bind fun w S1 =>
      lenG w.2 ((lcGo own (wipeS σ own) (stand w.1 S1) (fun v σ S => evg Φ tg v σ S) (fun σ S => evc Φ c σ S) (fun σ S => ev Φ e σ S) w.2 [] S1).bind fun xs S2 => mkL m xs S2) := (rfl)
theorem lenG_of {α : Type} {xs : List PV} {r : Rs α} (h : xs.length ≤ line) : lenG xs r = r := by unfold lenG; rw [if_pos h]
noncomputable def callV (Φ : Phi) (es : Es) (σ : Sg) (x : PV) (S : Store) : Rs PV := match x with
  | .clo k => (evs Φ es σ S).bind fun xs S2 => Φ k xs S2
  | _ => .no
@[simp] theorem callV_clo {k es} : callV Φ es σ (.clo k) S = (evs Φ es σ S).bind fun xs S2 => Φ k xs S2 := (rfl)
@[simp] theorem ev_callv {f es} : ev Φ (.callv f es) σ S = (ev Φ f σ S).bind fun x S1 => callV Φ es σ x S1 := (rfl)
@[simp] theorem catchV_ok {v : PV} {S : Store} : catchV (.ok v S) = .ok .non S := (rfl)
@[simp] theorem catchV_ex {v : PV} {S : Store} : catchV (.ex v S) = .ok v S := (rfl)
@[simp] theorem ev_caught {e} : ev Φ (.caught e) σ S = catchV (ev Φ e σ S) := (rfl)
@[simp] theorem evs_nil : evs Φ .nil σ S = .ok [] S := (rfl)
@[simp] theorem evs_cons {e r} : evs Φ (.cons e r) σ S = (ev Φ e σ S).bind fun x S1 => (evs Φ r σ S1).bind fun xs S2 => .ok (x :: xs) S2 := (rfl)
@[simp] theorem starV_some {ys : List PV} {f : List PV → Rs (List PV)} : starV (some ys) f = f ys := (rfl)
@[simp] theorem evs_star {e r} : evs Φ (.star e r) σ S = (ev Φ e σ S).bind fun x S1 => starV (items x S1) fun ys => (evs Φ r σ S1).bind fun xs S2 => .ok (ys ++ xs) S2 := (rfl)
@[simp] theorem okT_some {b : Bool} {S : Store} : okT (some b) S = .ok b S := (rfl)
@[simp] theorem evt_v {e} : evt Φ (.v e) σ S = (ev Φ e σ S).bind fun x S1 => okT (truth x S1) S1 := (rfl)
@[simp] theorem evt_and {a b} : evt Φ (.and a b) σ S = (evt Φ a σ S).bind fun k S1 => bif k then evt Φ b σ S1 else .ok false S1 := by
  refine congrArg (Rs.bind _) ?_
  funext k S1
  cases k <;> rfl
@[simp] theorem evt_or {a b} : evt Φ (.or a b) σ S = (evt Φ a σ S).bind fun k S1 => bif k then .ok true S1 else evt Φ b σ S1 := by
  refine congrArg (Rs.bind _) ?_
  funext k S1
  cases k <;> rfl
@[simp] theorem evt_not {a} : evt Φ (.not a) σ S = (evt Φ a σ S).bind fun k S1 => .ok (!k) S1 := (rfl)
@[simp] theorem evc_none : evc Φ .none σ S = .ok true S := (rfl)
@[simp] theorem evc_some {c} : evc Φ (.some c) σ S = evt Φ c σ S := (rfl)
@[simp] theorem itV_some {x xs f} {S : Store} : itV x S (some xs) f = .ok ([x], f xs) S := (rfl)
@[simp] theorem evi_e {a} : evi Φ (.e a) σ S = (ev Φ a σ S).bind fun x S1 => itV x S1 (items x S1) fun xs => xs := (rfl)
@[simp] theorem evi_enum {a} : evi Φ (.enum a) σ S = (ev Φ a σ S).bind fun x S1 => itV x S1 (items x S1) fun xs => xs.zipIdx.map fun p => .tup [.int p.2, p.1] := (rfl)
theorem rng1V_int {j : Int} {S : Store} (h : j ≤ 100000 ∧ -100000 ≤ j) : rng1V (.int j) S = .ok ([], rng 0 j) S := if_pos h
@[simp] theorem evi_range1 {a} : evi Φ (.range1 a) σ S = (ev Φ a σ S).bind rng1V := (rfl)
theorem rng2V_int {i j : Int} {S : Store} (h : (j ≤ 100000 ∧ -100000 ≤ j) ∧ (i ≤ 100000 ∧ -100000 ≤ i)) : rng2V (.int i) (.int j) S = .ok ([], rng i j) S := if_pos h
@[simp] theorem evi_range2 {a b} : evi Φ (.range2 a b) σ S = (ev Φ a σ S).bind fun x S1 => (ev Φ b σ S1).bind fun y S2 => rng2V x y S2 := (rfl)
@[simp] theorem zipV_some {x y xs ys} {S : Store} : zipV x y S (some xs) (some ys) = .ok ([x, y], (xs.zip ys).map fun p => .tup [p.1, p.2]) S := (rfl)
@[simp] theorem evi_zip {a b} : evi Φ (.zip a b) σ S = (ev Φ a σ S).bind fun x S1 => (ev Φ b σ S1).bind fun y S2 => zipV x y S2 (items x S2) (items y S2) := (rfl)
@[simp] theorem evg_x {i v} : evg Φ (.x i) v σ S = .ok (setS σ i (some v)) S := (rfl)
@[simp] theorem okS_some {σ : Sg} {S : Store} : okS (some S) σ = .ok σ S := (rfl)
@[simp] theorem evg_sub {o i v} : evg Φ (.sub o i) v σ S = (ev Φ o σ S).bind fun x S1 => (ev Φ i σ S1).bind fun y S2 => okS (setIx x y v S2) σ := (rfl)
@[simp] theorem unpV_some {xs : List PV} {f : List PV → Rs Sg} : unpV (some xs) f = f xs := (rfl)
@[simp] theorem evg_tup {l v} : evg Φ (.tup l) v σ S = unpV (tupV v) fun xs => evgs Φ l xs σ S := (rfl)
@[simp] theorem tupV_tup {xs : List PV} : tupV (.tup xs) = some xs := (rfl)
@[simp] theorem evgs_nil : evgs Φ .nil [] σ S = .ok σ S := (rfl)
@[simp] theorem seqG_ok {σ1 : Sg} {S1 : Store} {f : Sg → Store → Rs Sg} : seqG (.ok σ1 S1) f = f σ1 S1 := (rfl)
@[simp] theorem evgs_cons {t r v vs} : evgs Φ (.cons t r) (v :: vs) σ S = seqG (evg Φ t v σ S) fun σ1 S1 => evgs Φ r vs σ1 S1 := (rfl)
/-! ### statements -/
@[simp] theorem nxG_ok {σ1 : Sg} {S1 : Store} : nxG (.ok σ1 S1) = .ok (.nx, σ1) S1 := (rfl)
@[simp] theorem ex_set {tg e} : exT Φ (.set tg e) σ S = (ev Φ e σ S).bind fun x S1 => nxG (evg Φ tg x σ S1) := (rfl)
@[simp] theorem ex_par {is es} : exT Φ (.par is es) σ S = (evs Φ es σ S).bind fun xs S1 => if xs.length = is.length then .ok (.nx, setAll σ is xs) S1 else .no := (rfl)
@[simp] theorem nxS_some {σ : Sg} {S : Store} : nxS (some S) σ = .ok (.nx, σ) S := (rfl)
@[simp] theorem ex_setDk {o k e} : exT Φ (.setDk o k e) σ S = (ev Φ e σ S).bind fun v S1 => (ev Φ o σ S1).bind fun x S2 => nxS (setDk x k v S2) σ := (rfl)
@[simp] theorem ex_setAt {o C j e} : exT Φ (.setAt o C j e) σ S = (ev Φ e σ S).bind fun v S1 => (ev Φ o σ S1).bind fun x S2 => nxS (setAttr x C j v S2) σ := (rfl)
theorem locL_loc {i : Nat} {S : Store} {xs : List PV} (h : S[i]? = some (.lst xs)) : locL (.loc i) S = true := by simp [locL, h]
@[simp] theorem ex_ex {e} : exT Φ (.ex e) σ S = (ev Φ e σ S).bind fun _ S1 => .ok (.nx, σ) S1 := (rfl)
@[simp] theorem ex_app {o e} : exT Φ (.app o e) σ S = (ev Φ o σ S).bind fun x S1 => lstG (isLst x S1) ((ev Φ e σ S1).bind fun v S2 => nxS (app x v S2) σ) := (rfl)
@[simp] theorem augV_some {x y u : PV} {σ : Sg} {S : Store} : augV x y (some u) σ S = nxS (setIx x y u S) σ := (rfl)
@[simp] theorem ex_augIx {o i e} : exT Φ (.augIx o i e) σ S = (ev Φ o σ S).bind fun x S1 => (ev Φ i σ S1).bind fun y S2 => lstG (locL x S2) ((index x y S2).bind fun z S3 => (ev Φ e σ S3).bind fun w S4 => augV x y (augI z w) σ S4) := (rfl)
@[simp] theorem fpos_cons {D j C : Nat} {r : List (Nat × Nat)} : fpos ((D, j) :: r) C = if C = D then some j else fpos r C := (rfl)
@[simp] theorem attr_ins {C : Nat} {fs : List PV} {ps : List (Nat × Nat)} {S : Store} : attr (.ins C fs) ps S = fAt (fpos ps C) fs S := (rfl)
@[simp] theorem ex_ifs {c a b} : exT Φ (.ifs c a b) σ S = (evt Φ c σ S).bind fun k S1 => bif k then exs Φ a σ S1 else exs Φ b σ S1 := by
  refine congrArg (Rs.bind _) ?_
  funext k S1
  cases k <;> rfl
theorem ex_for {tg it b} : exT Φ (.for tg it b) σ S = (evi Φ it σ S).bind fun w S1 => forGo (stand w.1 S1) (fun v σ S => evg Φ tg v σ S) (fun σ S => exs Φ b σ S) w.2 σ S1 := (rfl)
theorem ex_while {c b} : exT Φ (.while c b) σ S = whl (fun σ S => evt Φ c σ S) (fun σ S => exs Φ b σ S) σ S := (rfl)
@[simp] theorem ex_ret {e} : exT Φ (.ret e) σ S = (ev Φ e σ S).bind fun x S1 => .ok (.rt x, σ) S1 := (rfl)
@[simp] theorem ex_retN : exT Φ .retN σ S = .ok (.rt .non, σ) S := (rfl)
@[simp] theorem ex_pass : exT Φ .pass σ S = .ok (.nx, σ) S := (rfl)
@[simp] theorem ex_raise {C n es} : exT Φ (.raise C n es) σ S = (evs Φ es σ S).bind fun xs S1 => .ex (.exc C (xs.take n)) S1 := (rfl)
theorem exs_nil : exs Φ .nil σ S = .ok (.nx, σ) S := (rfl)
@[simp] theorem seqT_nx {σ : Sg} {S : Store} {f : Sg → Rs (Fl × Sg)} : seqT (.nx, σ) S f = f σ := (rfl)
@[simp] theorem seqT_rt {v : PV} {σ : Sg} {S : Store} {f : Sg → Rs (Fl × Sg)} : seqT (.rt v, σ) S f = .ok (.rt v, σ) S := (rfl)
theorem exs_cons {t r} : exs Φ (.cons t r) σ S = (exT Φ t σ S).bind fun p S1 => seqT p S1 fun σ1 => exs Φ r σ1 S1 := (rfl)
/-! ### defs -/
@[simp] theorem fin_rt {S S' : Store} {v : PV} {σ : Sg} : fin S (.ok (.rt v, σ) S') = leave S.length S S' v := (rfl)
@[simp] theorem fin_nx {S S' : Store} {σ : Sg} : fin S (.ok (.nx, σ) S') = leave S.length S S' .non := (rfl)
end
@[simp] theorem getS_zero {a : Option PV} {r : Sg} : getS (a :: r) 0 = a := (rfl)
@[simp] theorem getS_succ {a : Option PV} {r : Sg} {n : Nat} : getS (a :: r) (n + 1) = getS r n := (rfl)
@[simp] theorem setS_zero {a v : Option PV} {r : Sg} : setS (a :: r) 0 v = v :: r := (rfl)
@[simp] theorem setS_succ {a v : Option PV} {r : Sg} {n : Nat} : setS (a :: r) (n + 1) v = a :: setS r n v := (rfl)
@[simp] theorem wipeS_nil {σ : Sg} : wipeS σ [] = σ := (rfl)
@[simp] theorem wipeS_cons {σ : Sg} {v : Nat} {vs : List Nat} : wipeS σ (v :: vs) = setS (wipeS σ vs) v none := (rfl)
@[simp] theorem setAll_nil {σ : Sg} {vs : List PV} : setAll σ [] vs = σ := by cases vs <;> rfl
@[simp] theorem setAll_cons {σ : Sg} {i : Nat} {is : List Nat} {v : PV} {vs : List PV} : setAll σ (i :: is) (v :: vs) = setAll (setS σ i (some v)) is vs := (rfl)
@[simp] theorem mask_none {b : Option PV} {r r' : Sg} : mask (none :: r) (b :: r') = none :: mask r r' := (rfl)
@[simp] theorem mask_some {a : PV} {b : Option PV} {r r' : Sg} : mask (some a :: r) (b :: r') = b :: mask r r' := (rfl)
@[simp] theorem mask_nil {r : Sg} : mask [] r = [] := by cases r <;> rfl
@[simp] theorem items_tup {xs : List PV} {S : Store} : items (.tup xs) S = some xs := (rfl)
@[simp] theorem items_lst {xs : List PV} {S : Store} : items (.lst xs) S = some xs := (rfl)
@[simp] theorem items_fz {xs : List PV} {S : Store} : items (.fz xs) S = some xs := (rfl)
@[simp] theorem items_int {i : Int} {S : Store} : items (.int i) S = none := (rfl)
@[simp] theorem items_non {S : Store} : items .non S = none := (rfl)
@[simp] theorem items_bl {b : Bool} {S : Store} : items (.bl b) S = none := (rfl)
@[simp] theorem items_str {s : Str} {S : Store} : items (.str s) S = none := (rfl)
theorem items_loc {i : Nat} {S : Store} {xs : List PV} (h : S[i]? = some (.lst xs)) : items (.loc i) S = some xs := by simp [items, h]
@[simp] theorem mkL_false {xs : List PV} {S : Store} : mkL false xs S = .ok (.lst xs) S := (rfl)
@[simp] theorem mkL_true {xs : List PV} {S : Store} : mkL true xs S = .ok (.loc S.length) (S ++ [.lst xs]) := (rfl)
@[simp] theorem add_int {m i j} {S : Store} : binop .add m (.int i) (.int j) S = .ok (.int (i + j)) S := (rfl)
@[simp] theorem sub_int {m i j} {S : Store} : binop .sub m (.int i) (.int j) S = .ok (.int (i - j)) S := (rfl)
theorem mul_int {m i j} {S : Store} (h : mulOk i j) : binop .mul m (.int i) (.int j) S = .ok (.int (i * j)) S := if_pos h
theorem fdiv_int {m} {i j : Int} {S : Store} (h : j ≠ 0) (h2 : j.natAbs < divLine ∨ i.natAbs < numLine) : binop .fdiv m (.int i) (.int j) S = .ok (.int (i.fdiv j)) S := if_neg (fun z => z.elim h fun z => h2.elim (fun q => absurd z.1 (Nat.not_le.mpr q)) fun q => absurd z.2 (Nat.not_le.mpr q))
theorem mod_int {m} {i j : Int} {S : Store} (h : j ≠ 0) : binop .mod m (.int i) (.int j) S = .ok (.int (i.fmod j)) S := if_neg h
theorem add_tup {m xs ys} {S : Store} (h : xs.length + ys.length ≤ line) : binop .add m (.tup xs) (.tup ys) S = .ok (.tup (xs ++ ys)) S := if_pos h
theorem add_lst {m xs ys} {S : Store} (h : xs.length + ys.length ≤ line) : binop .add m (.lst xs) (.lst ys) S = mkL m (xs ++ ys) S := if_pos h
@[simp] theorem lt_int {Φ : Phi} {i j} {S : Store} : cmpop Φ .lt (.int i) (.int j) S = .ok (.bl (decide (i < j))) S := (rfl)
@[simp] theorem le_int {Φ : Phi} {i j} {S : Store} : cmpop Φ .le (.int i) (.int j) S = .ok (.bl (decide (i ≤ j))) S := (rfl)
@[simp] theorem gt_int {Φ : Phi} {i j} {S : Store} : cmpop Φ .gt (.int i) (.int j) S = .ok (.bl (decide (j < i))) S := (rfl)
@[simp] theorem ge_int {Φ : Phi} {i j} {S : Store} : cmpop Φ .ge (.int i) (.int j) S = .ok (.bl (decide (j ≤ i))) S := (rfl)
@[simp] theorem eq_int {Φ : Phi} {i j} {S : Store} : cmpop Φ .eq (.int i) (.int j) S = .ok (.bl (decide (i = j))) S := by
  show (if isD 16 (.int i) = true ∧ isD 16 (.int j) = true then Rs.ok (PV.bl (i == j)) S else .no) = _
  rw [if_pos ⟨rfl, rfl⟩, Bool.beq_eq_decide_eq]
@[simp] theorem ne_int {Φ : Phi} {i j} {S : Store} : cmpop Φ .ne (.int i) (.int j) S = .ok (.bl (decide (i ≠ j))) S := by
  show (if isD 16 (.int i) = true ∧ isD 16 (.int j) = true then Rs.ok (PV.bl (!(i == j))) S else .no) = _
  rw [if_pos ⟨rfl, rfl⟩, Bool.beq_eq_decide_eq, decide_not]
@[simp] theorem bi_len_tup {xs} {S : Store} : bi1 .len (.tup xs) S = .ok (.int xs.length) S := (rfl)
@[simp] theorem bi_len_lst {xs} {S : Store} : bi1 .len (.lst xs) S = .ok (.int xs.length) S := (rfl)
@[simp] theorem bi_abs {i : Int} {S : Store} : bi1 .abs (.int i) S = .ok (.int (i.natAbs : Int)) S := by
  have e : (if i < 0 then -i else i) = (i.natAbs : Int) := by split <;> omega
  show Rs.ok (PV.int (if i < 0 then -i else i)) S = _
  rw [e]
@[simp] theorem bi_int {i} {S : Store} : bi1 .int (.int i) S = .ok (.int i) S := (rfl)
@[simp] theorem bi_int_bl {b} {S : Store} : bi1 .int (.bl b) S = .ok (.int (b2i b)) S := (rfl)
@[simp] theorem bi_tuple_lst {xs} {S : Store} : bi1 .tuple (.lst xs) S = .ok (.tup xs) S := (rfl)
@[simp] theorem bi_tuple_tup {xs} {S : Store} : bi1 .tuple (.tup xs) S = .ok (.tup xs) S := (rfl)
@[simp] theorem truth_bl {b} {S : Store} : truth (.bl b) S = some b := (rfl)
@[simp] theorem truth_int {i} {S : Store} : truth (.int i) S = some (decide (i ≠ 0)) := (rfl)
@[simp] theorem truth_non {S : Store} : truth .non S = some false := (rfl)
/-! ### plain values -/
@[simp] theorem lf_non : lf .non = true := (rfl)
@[simp] theorem lf_bl (b : Bool) : lf (.bl b) = true := (rfl)
@[simp] theorem lf_int (i : Int) : lf (.int i) = true := (rfl)
@[simp] theorem lf_str (s : Str) : lf (.str s) = true := (rfl)
@[simp] theorem lf_clo (k : Nat) : lf (.clo k) = true := (rfl)
@[simp] theorem lf_tup (xs : List PV) : lf (.tup xs) = lfs xs := (rfl)
@[simp] theorem lf_lst (xs : List PV) : lf (.lst xs) = lfs xs := (rfl)
@[simp] theorem lf_fz (xs : List PV) : lf (.fz xs) = lfs xs := (rfl)
@[simp] theorem lf_ins (C : Nat) (xs : List PV) : lf (.ins C xs) = lfs xs := (rfl)
@[simp] theorem lf_exc (C : Nat) (xs : List PV) : lf (.exc C xs) = lfs xs := (rfl)
@[simp] theorem lf_loc (i : Nat) : lf (.loc i) = false := (rfl)
theorem lfs_all : ∀ xs : List PV, lfs xs = xs.all lf
  | [] => rfl
  | x :: xs => by show (lf x && lfs xs) = _; rw [lfs_all xs]; rfl
@[simp] theorem lfs_nil : lfs [] = true := (rfl)
@[simp] theorem lfs_cons (x : PV) (xs : List PV) : lfs (x :: xs) = (lf x && lfs xs) := (rfl)
@[simp] theorem lfs_append (xs ys : List PV) : lfs (xs ++ ys) = (lfs xs && lfs ys) := by simp [lfs_all]
theorem lfs_map {α : Type} {f : α → PV} (h : ∀ a, lf (f a) = true) (l : List α) : lfs (l.map f) = true := by simp [lfs_all, h]
@[simp] theorem lfs_ints (l : List Int) : lfs (l.map PV.int) = true := lfs_map (fun _ => rfl) l
@[simp] theorem lfs_bls (l : List Bool) : lfs (l.map PV.bl) = true := lfs_map (fun _ => rfl) l
theorem lfs_mem {xs : List PV} {x : PV} (h : lfs xs = true) (hx : x ∈ xs) : lf x = true := by rw [lfs_all] at h; exact List.all_eq_true.mp h x hx
theorem lfs_of {xs : List PV} (h : ∀ x ∈ xs, lf x = true) : lfs xs = true := by rw [lfs_all]; exact List.all_eq_true.mpr h
/-! ### ends of defs -/
theorem frz_lf {S : Store} {n k : Nat} {v : PV} (h : lf v = true) : frz S n k v = some v := by
  cases k <;> simp [frz, h]
theorem old_same (S : Store) : old S.length S S := ⟨Nat.le_refl _, fun i c _ h => .inl h⟩
theorem old_app (S G : Store) : old S.length S (S ++ G) := ⟨by simp, fun i c hi h => .inl (by rw [List.getElem?_append_left hi] at h; exact h)⟩
theorem leave_of {S S' : Store} {v w : PV} {n : Nat} (h : old n S S') (hv : frz S' n 8 v = some w) : leave n S S' v = .ok w (S'.take n) := by
  unfold leave; rw [if_pos h, hv]
@[simp] theorem leave_same {S : Store} {v : PV} (h : lf v = true) : leave S.length S S v = .ok v S := by
  rw [leave_of (old_same S) (frz_lf h), List.take_length]
@[simp] theorem leave_app {S G : Store} {v : PV} (h : lf v = true) : leave S.length S (S ++ G) v = .ok v S := by
  rw [leave_of (old_app S G) (frz_lf h), List.take_left]
theorem fin_ex {S : Store} {e : PV} (h : lf e = true) : fin S (.ex e S) = .ex e S := by
  show (open Classical in if old S.length S S ∧ lf e = true then _ else _) = _
  rw [if_pos ⟨old_same S, h⟩, List.take_length]
/-! ### loops -/
theorem stand_nil (S S' : Store) : stand [] S S' := fun _ h => by cases h
theorem stand_self (gs : List PV) (S : Store) : stand gs S S := fun _ _ => rfl
/-- a comprehension whose turns change nothing: map and filter -/
theorem lcGo_map {own : List Nat} {σ0 : Sg} {g : Store → Prop} {tg : PV → Sg → Store → Rs Sg} {c : Sg → Store → Rs Bool} {e : Sg → Store → Rs PV} {S : Store} (hg : g S) (f : PV → PV) :
    ∀ {xs acc : List PV}, (∀ x ∈ xs, ∃ σ1, tg x σ0 S = .ok σ1 S ∧ c σ1 S = .ok true S ∧ e σ1 S = .ok (f x) S) → lcGo own σ0 g tg c e xs acc S = .ok (acc ++ xs.map f) S
  | [], acc, _ => by simp [lcGo, hg]
  | x :: xs, acc, h => by
    obtain ⟨σ1, h1, h2, h3⟩ := h x List.mem_cons_self
    simp only [lcGo, hg, if_true, h1, h2, h3]
    rw [lcGo_map hg f fun y hy => h y (List.mem_cons_of_mem _ hy)]
    simp
theorem lcGo_filter {own : List Nat} {σ0 : Sg} {g : Store → Prop} {tg : PV → Sg → Store → Rs Sg} {c : Sg → Store → Rs Bool} {e : Sg → Store → Rs PV} {S : Store} (hg : g S) (p : PV → Bool) (f : PV → PV) :
    ∀ {xs acc : List PV}, (∀ x ∈ xs, ∃ σ1, tg x σ0 S = .ok σ1 S ∧ c σ1 S = .ok (p x) S ∧ (p x = true → e σ1 S = .ok (f x) S)) → lcGo own σ0 g tg c e xs acc S = .ok (acc ++ (xs.filter p).map f) S
  | [], acc, _ => by simp [lcGo, hg]
  | x :: xs, acc, h => by
    obtain ⟨σ1, h1, h2, h3⟩ := h x List.mem_cons_self
    simp only [lcGo, hg, if_true, h1, h2]
    cases hp : p x with
    | true =>
      simp only [h3 hp]
      rw [lcGo_filter hg p f fun y hy => h y (List.mem_cons_of_mem _ hy)]
      simp [hp]
    | false =>
      simp only []
      rw [lcGo_filter hg p f fun y hy => h y (List.mem_cons_of_mem _ hy)]
      simp [hp]
/-- a for's turns as a fold: st tells the names and the store by a datum a -/
theorem forGo_fold {α : Type} {g : Store → Prop} {tg : PV → Sg → Store → Rs Sg} {b : Sg → Store → Rs (Fl × Sg)} (st : α → Sg) (sS : α → Store) (f : α → PV → α) :
    ∀ {xs : List PV} {a : α}, (∀ a : α, g (sS a)) → (∀ x ∈ xs, ∀ a, ∃ σ1 S1 σ2, tg x (st a) (sS a) = .ok σ1 S1 ∧ b σ1 S1 = .ok (.nx, σ2) (sS (f a x)) ∧ mask (st a) σ2 = st (f a x)) →
      forGo g tg b xs (st a) (sS a) = .ok (.nx, st (xs.foldl f a)) (sS (xs.foldl f a))
  | [], a, hg, _ => by simp [forGo, hg a]
  | x :: xs, a, hg, h => by
    obtain ⟨σ1, S1, σ2, h1, h2, h3⟩ := h x List.mem_cons_self a
    simp only [forGo, hg a, if_true, h1, h2, h3, List.foldl_cons]
    exact forGo_fold st sS f hg fun y hy => h y (List.mem_cons_of_mem _ hy)
theorem ints_map (l : List Int) : intsOf (l.map PV.int) = some l := by
  induction l with
  | nil => rfl
  | cons i l ih => simp [intsOf, ih]
theorem bls_map (l : List Bool) : bls (l.map PV.bl) = some l := by
  induction l with
  | nil => rfl
  | cons i l ih => simp [bls, ih]
end Sv
end

section
set_option Elab.async false
set_option linter.all false
set_option maxRecDepth 100000
set_option maxHeartbeats 1000000
/-! how plain data stand in the layer's heap -/
namespace Sv
open PySem PySem.Spec PyProof.Rows L2

/-- a lambda that captures nothing -/
structure LamD where
  qual : Str
  params : Arguments
  body : Expr
  scope : Scope
/-- what the numbers stand for -/
structure Bk where
  K : PySem.W.Frag
  cls : Nat → Option Addr
  flds : Nat → List Str
  exc : Nat → Option Addr
  lam : Nat → Option LamD
  ex : List Addr := []
/-- an address that no value may name: a list that is being made -/
def Bk.res (B : Bk) (a : Addr) : Bk := { B with ex := a :: B.ex }
/-- an error that was caught, as a value -/
def ExcO (a c : Addr) : HO := .ext fun h => ∃ oe vs, h.get? a = some oe ∧ oe.cls = .ref c ∧ oe.dict = none ∧ oe.data = .fields vs
def CloO (f : Addr) (d : LamD) (c : Addr) (pm ctv : Value) : HO := .ext fun h => h.get? f = some (PySem.W.kla_obj "<lambda>" d.qual d.params d.body d.scope [] pm c ctv)

section
variable (B : Bk) (ρ : List Addr) (H : Hp)
def out (a : Addr) : Prop := a ∉ ρ ∧ a ∉ B.ex
mutual
def VR : PV → V → Prop
  | .non, x => x = .non
  | .bl b, x => x = .bl b
  | .int i, x => x = .int i
  | .str s, x => x = .str s
  | .tup xs, x => ∃ a vs, x = .ref a ∧ H a = some (.tup vs) ∧ out B ρ a ∧ VRs xs vs
  | .lst xs, x => ∃ a vs, x = .ref a ∧ H a = some (.lst vs) ∧ out B ρ a ∧ VRs xs vs
  | .fz xs, x => ∃ a vs, x = .ref a ∧ ((Rd H a (.lst vs) ∧ out B ρ a) ∨ ∀ H' : Hp, SqL B.K H' a vs) ∧ VRs xs vs
  | .ins C fs, x => ∃ a c dx vfs, x = .ref a ∧ B.cls C = some c ∧ H a = some (.ins c dx vfs) ∧ out B ρ a ∧ vfs.map (·.1) = (B.flds C).take fs.length ∧ VRs fs (vfs.map (·.2))
  | .exc C fs, x => ∃ a c, x = .ref a ∧ B.exc C = some c ∧ H a = some (ExcO a c) ∧ out B ρ a ∧ fs = []
  | .loc i, x => ∃ a, x = .ref a ∧ ρ[i]? = some a
  | .dic, x => ∃ a ps, x = .ref a ∧ H a = some (.dK ps) ∧ out B ρ a
  | .clo k, x => ∃ f d c pm ctv, x = .ref f ∧ B.lam k = some d ∧ H f = some (CloO f d c pm ctv) ∧ out B ρ f ∧ H c = some (LamX.CodeO c d.qual) ∧ out B ρ c
def VRs : List PV → List V → Prop
  | [], vs => vs = []
  | x :: xs, vs => ∃ v r, vs = v :: r ∧ VR x v ∧ VRs xs r
end
end
section
variable {B : Bk} {ρ ρ' ρ'' : List Addr} {H H' H'' : Hp}
theorem VRs.nil : VRs B ρ H [] [] := by rw [VRs]
theorem VRs.cons {x : PV} {xs : List PV} {v : V} {vs : List V} (h : VR B ρ H x v) (r : VRs B ρ H xs vs) : VRs B ρ H (x :: xs) (v :: vs) := by rw [VRs]; exact ⟨v, vs, rfl, h, r⟩
theorem VRs.uncons {x : PV} {xs : List PV} {vs : List V} (h : VRs B ρ H (x :: xs) vs) : ∃ v r, vs = v :: r ∧ VR B ρ H x v ∧ VRs B ρ H xs r := by rw [VRs] at h; exact h
theorem VRs.unnil {vs : List V} (h : VRs B ρ H [] vs) : vs = [] := by rw [VRs] at h; exact h
theorem VRs.length : ∀ {xs : List PV} {vs : List V}, VRs B ρ H xs vs → xs.length = vs.length
  | [], vs, h => by rw [h.unnil]; rfl
  | x :: xs, vs, h => by obtain ⟨v, r, rfl, _, h⟩ := h.uncons; simp [VRs.length h]
theorem VRs.get : ∀ {xs : List PV} {vs : List V} {i : Nat} {x : PV}, VRs B ρ H xs vs → xs[i]? = some x → ∃ v, vs[i]? = some v ∧ VR B ρ H x v
  | [], _, _, _, _, e => by simp at e
  | y :: xs, vs, 0, x, h, e => by obtain ⟨v, r, rfl, h1, h⟩ := h.uncons; simp at e; subst e; exact ⟨v, rfl, h1⟩
  | y :: xs, vs, i + 1, x, h, e => by
    obtain ⟨v, r, rfl, h1, h⟩ := h.uncons
    obtain ⟨u, e2, h2⟩ := VRs.get (i := i) h (by simpa using e)
    exact ⟨u, by simpa using e2, h2⟩
theorem VRs.of : ∀ {xs : List PV} {vs : List V}, xs.length = vs.length → (∀ (i : Nat) x v, xs[i]? = some x → vs[i]? = some v → VR B ρ H x v) → VRs B ρ H xs vs
  | [], [], _, _ => .nil
  | [], _ :: _, h, _ => by simp at h
  | _ :: _, [], h, _ => by simp at h
  | x :: xs, v :: vs, hl, h => .cons (h 0 x v rfl rfl) (VRs.of (by simpa using hl) fun i y w e1 e2 => h (i + 1) y w (by simpa using e1) (by simpa using e2))
theorem VRs.append : ∀ {xs ys : List PV} {vs ws : List V}, VRs B ρ H xs vs → VRs B ρ H ys ws → VRs B ρ H (xs ++ ys) (vs ++ ws)
  | [], _, vs, _, h, k => by rw [h.unnil]; exact k
  | x :: xs, _, vs, _, h, k => by obtain ⟨v, r, rfl, h1, h⟩ := h.uncons; exact .cons h1 (VRs.append h k)
theorem VRs.take : ∀ {xs : List PV} {vs : List V} (n : Nat), VRs B ρ H xs vs → VRs B ρ H (xs.take n) (vs.take n)
  | [], vs, n, h => by rw [h.unnil]; simp; exact .nil
  | x :: xs, vs, 0, h => by simp; exact .nil
  | x :: xs, vs, n + 1, h => by obtain ⟨v, r, rfl, h1, h⟩ := h.uncons; exact .cons h1 (VRs.take n h)
theorem VRs.drop : ∀ {xs : List PV} {vs : List V} (n : Nat), VRs B ρ H xs vs → VRs B ρ H (xs.drop n) (vs.drop n)
  | [], vs, n, h => by rw [h.unnil]; simp; exact .nil
  | x :: xs, vs, 0, h => h
  | x :: xs, vs, n + 1, h => by obtain ⟨v, r, rfl, h1, h⟩ := h.uncons; exact VRs.drop n h
theorem VRs.set {y : PV} {w : V} (hy : VR B ρ H y w) : ∀ {xs : List PV} {vs : List V} (n : Nat), VRs B ρ H xs vs → VRs B ρ H (xs.set n y) (vs.set n w)
  | [], vs, n, h => by rw [h.unnil]; exact .nil
  | x :: xs, vs, 0, h => by obtain ⟨v, r, rfl, h1, h⟩ := h.uncons; exact .cons hy h
  | x :: xs, vs, n + 1, h => by obtain ⟨v, r, rfl, h1, h⟩ := h.uncons; exact .cons h1 (VRs.set hy n h)
theorem VRs.eraseIdx : ∀ {xs : List PV} {vs : List V} (n : Nat), VRs B ρ H xs vs → VRs B ρ H (xs.eraseIdx n) (vs.eraseIdx n)
  | [], vs, n, h => by rw [h.unnil]; exact .nil
  | x :: xs, vs, 0, h => by obtain ⟨v, r, rfl, h1, h⟩ := h.uncons; exact h
  | x :: xs, vs, n + 1, h => by obtain ⟨v, r, rfl, h1, h⟩ := h.uncons; exact .cons h1 (VRs.eraseIdx n h)
theorem VRs.ints : ∀ {l : List Int} {vs : List V}, VRs B ρ H (l.map .int) vs → vs = l.map V.int
  | [], vs, h => h.unnil
  | i :: l, vs, h => by
    obtain ⟨v, r, rfl, h1, h⟩ := VRs.uncons (x := .int i) (xs := l.map .int) h
    rw [VR] at h1
    rw [h1, VRs.ints h]; rfl
theorem VRs.of_ints : ∀ l : List Int, VRs B ρ H (l.map .int) (l.map V.int)
  | [] => .nil
  | i :: l => .cons (by rw [VR]) (VRs.of_ints l)
theorem VRs.bls : ∀ {l : List Bool} {vs : List V}, VRs B ρ H (l.map .bl) vs → vs = l.map V.bl
  | [], vs, h => h.unnil
  | i :: l, vs, h => by
    obtain ⟨v, r, rfl, h1, h⟩ := VRs.uncons (x := .bl i) (xs := l.map .bl) h
    rw [VR] at h1
    rw [h1, VRs.bls h]; rfl

theorem vr_non {x : V} : VR B ρ H .non x ↔ x = .non := by rw [VR]
theorem vr_bl {b : Bool} {x : V} : VR B ρ H (.bl b) x ↔ x = .bl b := by rw [VR]
theorem vr_int {i : Int} {x : V} : VR B ρ H (.int i) x ↔ x = .int i := by rw [VR]
theorem vr_str {z : Str} {x : V} : VR B ρ H (.str z) x ↔ x = .str z := by rw [VR]
theorem vr_tup {xs : List PV} {x : V} : VR B ρ H (.tup xs) x ↔ ∃ a vs, x = .ref a ∧ H a = some (.tup vs) ∧ out B ρ a ∧ VRs B ρ H xs vs := by rw [VR]
theorem vr_lst {xs : List PV} {x : V} : VR B ρ H (.lst xs) x ↔ ∃ a vs, x = .ref a ∧ H a = some (.lst vs) ∧ out B ρ a ∧ VRs B ρ H xs vs := by rw [VR]
theorem vr_fz {xs : List PV} {x : V} : VR B ρ H (.fz xs) x ↔ ∃ a vs, x = .ref a ∧ ((Rd H a (.lst vs) ∧ out B ρ a) ∨ ∀ H' : Hp, SqL B.K H' a vs) ∧ VRs B ρ H xs vs := by rw [VR]
theorem vr_ins {C : Nat} {fs : List PV} {x : V} : VR B ρ H (.ins C fs) x ↔ ∃ a c dx vfs, x = .ref a ∧ B.cls C = some c ∧ H a = some (.ins c dx vfs) ∧ out B ρ a ∧ vfs.map (·.1) = (B.flds C).take fs.length ∧ VRs B ρ H fs (vfs.map (·.2)) := by rw [VR]
theorem vr_exc {C : Nat} {fs : List PV} {x : V} : VR B ρ H (.exc C fs) x ↔ ∃ a c, x = .ref a ∧ B.exc C = some c ∧ H a = some (ExcO a c) ∧ out B ρ a ∧ fs = [] := by rw [VR]
theorem vr_loc {i : Nat} {x : V} : VR B ρ H (.loc i) x ↔ ∃ a, x = .ref a ∧ ρ[i]? = some a := by rw [VR]
theorem vr_dic {x : V} : VR B ρ H .dic x ↔ ∃ a ps, x = .ref a ∧ H a = some (.dK ps) ∧ out B ρ a := by rw [VR]
theorem vr_clo {k : Nat} {x : V} : VR B ρ H (.clo k) x ↔ ∃ f d c pm ctv, x = .ref f ∧ B.lam k = some d ∧ H f = some (CloO f d c pm ctv) ∧ out B ρ f ∧ H c = some (LamX.CodeO c d.qual) ∧ out B ρ c := by rw [VR]

/-- the store has grown, what nobody changes stands as it stood -/
structure Go (ρ ρ' : List Addr) (H H' : Hp) : Prop where
  ext : ρ <+: ρ'
  new : ∀ a ∈ ρ', a ∈ ρ ∨ H a = none
  keep : ∀ a o, H a = some o → a ∉ ρ → (∀ ps, o ≠ .tbl ps) → H' a = some o
  live : ∀ a, H a ≠ none → H' a ≠ none
theorem Go.refl (ρ : List Addr) (H : Hp) : Go ρ ρ H H := ⟨List.prefix_refl _, fun _ h => .inl h, fun _ _ h _ _ => h, fun _ h => h⟩
theorem Go.trans (a : Go ρ ρ' H H') (b : Go ρ' ρ'' H' H'') : Go ρ ρ'' H H'' where
  ext := a.ext.trans b.ext
  new := fun p hp => by
    rcases b.new p hp with h | h
    · exact a.new p h
    · cases q : H p with
      | none => exact .inr rfl
      | some o => exact absurd h (a.live p (by rw [q]; simp))
  keep := fun p o q hm ht => by
    have h1 := a.keep p o q hm ht
    refine b.keep p o h1 (fun hp => ?_) ht
    rcases a.new p hp with h | h
    · exact hm h
    · rw [q] at h; cases h
  live := fun p q => b.live p (a.live p q)
theorem Go.notin {a : Addr} {o : HO} (g : Go ρ ρ' H H') (h : H a = some o) (hn : out B ρ a) : out B ρ' a := by
  refine ⟨fun hp => ?_, hn.2⟩
  rcases g.new a hp with z | z
  · exact hn.1 z
  · rw [h] at z; cases z
theorem Go.at {i : Nat} {a : Addr} (g : Go ρ ρ' H H') (h : ρ[i]? = some a) : ρ'[i]? = some a := by
  obtain ⟨t, rfl⟩ := g.ext
  have hi : i < ρ.length := (List.getElem?_eq_some_iff.mp h).1
  rw [List.getElem?_append_left hi]; exact h
mutual
theorem VR.mono (g : Go ρ ρ' H H') : ∀ {x : PV} {v : V}, VR B ρ H x v → VR B ρ' H' x v
  | .non, v, h => by rw [VR] at h ⊢; exact h
  | .bl _, v, h => by rw [VR] at h ⊢; exact h
  | .int _, v, h => by rw [VR] at h ⊢; exact h
  | .str _, v, h => by rw [VR] at h ⊢; exact h
  | .tup xs, v, h => by
    rw [VR] at h ⊢
    obtain ⟨a, vs, e, ha, hn, r⟩ := h
    exact ⟨a, vs, e, g.keep a _ ha hn.1 (fun _ z => by cases z), g.notin ha hn, VRs.mono g r⟩
  | .lst xs, v, h => by
    rw [VR] at h ⊢
    obtain ⟨a, vs, e, ha, hn, r⟩ := h
    exact ⟨a, vs, e, g.keep a _ ha hn.1 (fun _ z => by cases z), g.notin ha hn, VRs.mono g r⟩
  | .fz xs, v, h => by
    rw [VR] at h ⊢
    obtain ⟨a, vs, e, ha, r⟩ := h
    refine ⟨a, vs, e, ?_, VRs.mono g r⟩
    rcases ha with ⟨z | ⟨o, z⟩, hn⟩ | z
    · exact .inl ⟨.inl (g.keep a _ z hn.1 (fun _ z => by cases z)), g.notin z hn⟩
    · exact .inl ⟨.inr ⟨o, g.keep a _ z hn.1 (fun _ z => by cases z)⟩, g.notin z hn⟩
    · exact .inr z
  | .ins C fs, v, h => by
    rw [VR] at h ⊢
    obtain ⟨a, c, dx, vfs, e, hc, ha, hn, hf, r⟩ := h
    exact ⟨a, c, dx, vfs, e, hc, g.keep a _ ha hn.1 (fun _ z => by cases z), g.notin ha hn, hf, VRs.mono g r⟩
  | .exc C fs, v, h => by
    rw [VR] at h ⊢
    obtain ⟨a, c, e, hc, ha, hn, r⟩ := h
    exact ⟨a, c, e, hc, g.keep a _ ha hn.1 (fun _ z => by unfold ExcO at z; cases z), g.notin ha hn, r⟩
  | .loc i, v, h => by
    rw [VR] at h ⊢
    obtain ⟨a, e, q⟩ := h
    exact ⟨a, e, g.at q⟩
  | .dic, v, h => by
    rw [VR] at h ⊢
    obtain ⟨a, ps, e, ha, hn⟩ := h
    exact ⟨a, ps, e, g.keep a _ ha hn.1 (fun _ z => by cases z), g.notin ha hn⟩
  | .clo k, v, h => by
    rw [VR] at h ⊢
    obtain ⟨f, d, c, pm, ctv, e, hl, hf, nf, hc, nc⟩ := h
    exact ⟨f, d, c, pm, ctv, e, hl, g.keep f _ hf nf.1 (fun _ z => by unfold CloO at z; cases z), g.notin hf nf, g.keep c _ hc nc.1 (fun _ z => by unfold LamX.CodeO at z; cases z), g.notin hc nc⟩
theorem VRs.mono (g : Go ρ ρ' H H') : ∀ {xs : List PV} {vs : List V}, VRs B ρ H xs vs → VRs B ρ' H' xs vs
  | [], vs, h => by rw [VRs] at h ⊢; exact h
  | x :: xs, vs, h => by
    obtain ⟨v, r, rfl, h1, h⟩ := h.uncons
    exact .cons (VR.mono g h1) (VRs.mono g h)
end
mutual
/-- another book-keeping and another heap, alike at what may be named -/
theorem VR.turn {B' : Bk} (hK : B'.K = B.K) (hc : B'.cls = B.cls) (hf : B'.flds = B.flds) (he : B'.exc = B.exc) (hl : B'.lam = B.lam) (k : ∀ a o, out B ρ a → H a = some o → H' a = some o ∧ out B' ρ' a) (l : ∀ (i : Nat) a, ρ[i]? = some a → ρ'[i]? = some a) :
    ∀ {x : PV} {v : V}, VR B ρ H x v → VR B' ρ' H' x v
  | .non, v, h => by rw [VR] at h ⊢; exact h
  | .bl _, v, h => by rw [VR] at h ⊢; exact h
  | .int _, v, h => by rw [VR] at h ⊢; exact h
  | .str _, v, h => by rw [VR] at h ⊢; exact h
  | .tup xs, v, h => by
    rw [VR] at h ⊢
    obtain ⟨a, vs, e, ha, hn, r⟩ := h
    exact ⟨a, vs, e, (k a _ hn ha).1, (k a _ hn ha).2, VRs.turn hK hc hf he hl k l r⟩
  | .lst xs, v, h => by
    rw [VR] at h ⊢
    obtain ⟨a, vs, e, ha, hn, r⟩ := h
    exact ⟨a, vs, e, (k a _ hn ha).1, (k a _ hn ha).2, VRs.turn hK hc hf he hl k l r⟩
  | .fz xs, v, h => by
    rw [VR] at h ⊢
    obtain ⟨a, vs, e, ha, r⟩ := h
    refine ⟨a, vs, e, ?_, VRs.turn hK hc hf he hl k l r⟩
    rcases ha with ⟨z | ⟨o, z⟩, hn⟩ | z
    · exact .inl ⟨.inl (k a _ hn z).1, (k a _ hn z).2⟩
    · exact .inl ⟨.inr ⟨o, (k a _ hn z).1⟩, (k a _ hn z).2⟩
    · exact .inr (by rw [hK]; exact z)
  | .ins C fs, v, h => by
    rw [VR] at h ⊢
    obtain ⟨a, c, dx, vfs, e, hcc, ha, hn, hff, r⟩ := h
    exact ⟨a, c, dx, vfs, e, by rw [hc]; exact hcc, (k a _ hn ha).1, (k a _ hn ha).2, by rw [hf]; exact hff, VRs.turn hK hc hf he hl k l r⟩
  | .exc C fs, v, h => by
    rw [VR] at h ⊢
    obtain ⟨a, c, e, hcc, ha, hn, r⟩ := h
    exact ⟨a, c, e, by rw [he]; exact hcc, (k a _ hn ha).1, (k a _ hn ha).2, r⟩
  | .loc i, v, h => by
    rw [VR] at h ⊢
    obtain ⟨a, e, q⟩ := h
    exact ⟨a, e, l i a q⟩
  | .dic, v, h => by
    rw [VR] at h ⊢
    obtain ⟨a, ps, e, ha, hn⟩ := h
    exact ⟨a, ps, e, (k a _ hn ha).1, (k a _ hn ha).2⟩
  | .clo j, v, h => by
    rw [VR] at h ⊢
    obtain ⟨f, d, c, pm, ctv, e, hll, hff, nf, hcc, nc⟩ := h
    exact ⟨f, d, c, pm, ctv, e, by rw [hl]; exact hll, (k f _ nf hff).1, (k f _ nf hff).2, (k c _ nc hcc).1, (k c _ nc hcc).2⟩
theorem VRs.turn {B' : Bk} (hK : B'.K = B.K) (hc : B'.cls = B.cls) (hf : B'.flds = B.flds) (he : B'.exc = B.exc) (hl : B'.lam = B.lam) (k : ∀ a o, out B ρ a → H a = some o → H' a = some o ∧ out B' ρ' a) (l : ∀ (i : Nat) a, ρ[i]? = some a → ρ'[i]? = some a) :
    ∀ {xs : List PV} {vs : List V}, VRs B ρ H xs vs → VRs B' ρ' H' xs vs
  | [], vs, h => by rw [VRs] at h ⊢; exact h
  | x :: xs, vs, h => by
    obtain ⟨v, r, rfl, h1, h⟩ := h.uncons
    exact .cons (VR.turn hK hc hf he hl k l h1) (VRs.turn hK hc hf he hl k l h)
end
/-! ### the store -/
def kD : DK → Key
  | .i k => .inl k
  | .s x => .inr (Str.ofString x)
/-- what stands at a place of the store, at its address -/
def CR (B : Bk) (ρ : List Addr) (H : Hp) (a : Addr) : Cl → Prop
  | .lst xs => ∃ vs, H a = some (.lst vs) ∧ VRs B ρ H xs vs
  | .dct kvs => ∃ ps, H a = some (.dK ps) ∧ ps.map (·.1) = kvs.map (fun p => kD p.1) ∧ VRs B ρ H (kvs.map (·.2)) (ps.map (·.2))
  | .ins C fs => ∃ c dx vfs, H a = some (.ins c dx vfs) ∧ B.cls C = some c ∧ vfs.map (·.1) = (B.flds C).take fs.length ∧ fs.length ≤ (B.flds C).length ∧ VRs B ρ H fs (vfs.map (·.2))
theorem CR.mono {a : Addr} {c : Cl} (g : Go ρ ρ' H H') (ha : H' a = H a) (h : CR B ρ H a c) : CR B ρ' H' a c := by
  cases c with
  | lst xs => obtain ⟨vs, e, r⟩ := h; exact ⟨vs, ha.trans e, r.mono g⟩
  | dct kvs => obtain ⟨ps, e, k, r⟩ := h; exact ⟨ps, ha.trans e, k, r.mono g⟩
  | ins C fs => obtain ⟨c, dx, vfs, e, hc, k, l, r⟩ := h; exact ⟨c, dx, vfs, ha.trans e, hc, k, l, r.mono g⟩
theorem CR.stands {a : Addr} {c : Cl} (h : CR B ρ H a c) : ∃ o, H a = some o ∧ (∀ ps, o ≠ .tbl ps) ∧ (∀ f p, o ≠ .frz f p) := by
  cases c with
  | lst xs => obtain ⟨vs, e, r⟩ := h; exact ⟨_, e, (fun _ z => by cases z), fun _ _ z => by cases z⟩
  | dct kvs => obtain ⟨ps, e, k, r⟩ := h; exact ⟨_, e, (fun _ z => by cases z), fun _ _ z => by cases z⟩
  | ins C fs => obtain ⟨c, dx, vfs, e, hc, k, r⟩ := h; exact ⟨_, e, (fun _ z => by cases z), fun _ _ z => by cases z⟩
structure StR (B : Bk) (T : List (Addr × Str)) (ρ : List Addr) (H : Hp) (S : Store) : Prop where
  len : ρ.length = S.length
  nd : ρ.Nodup
  cl : ∀ (i : Nat) a c, ρ[i]? = some a → S[i]? = some c → CR B ρ H a c
  tabs : LamX.Tabs T H
  ex : ∀ a ∈ ρ, a ∉ B.ex
  exs : ∀ a ∈ B.ex, ∃ o, H a = some o ∧ (∀ ps, o ≠ .tbl ps) ∧ ∀ φ, o ≠ .ext φ
variable {T : List (Addr × Str)} {S S' : Store}
theorem StR.in_ {i : Nat} {c : Cl} (h : StR B T ρ H S) (e : S[i]? = some c) : ∃ a, ρ[i]? = some a ∧ CR B ρ H a c := by
  have hi : i < ρ.length := by rw [h.len]; exact (List.getElem?_eq_some_iff.mp e).1
  exact ⟨ρ[i], List.getElem?_eq_getElem hi, h.cl i _ c (List.getElem?_eq_getElem hi) e⟩
theorem StR.cell {i : Nat} {a : Addr} (h : StR B T ρ H S) (e : ρ[i]? = some a) : ∃ c, S[i]? = some c ∧ CR B ρ H a c := by
  have hi : i < S.length := by rw [← h.len]; exact (List.getElem?_eq_some_iff.mp e).1
  exact ⟨S[i], List.getElem?_eq_getElem hi, h.cl i a _ e (List.getElem?_eq_getElem hi)⟩
theorem StR.there {a : Addr} (h : StR B T ρ H S) (hp : a ∈ ρ) : ∃ o, H a = some o ∧ (∀ ps, o ≠ .tbl ps) := by
  obtain ⟨i, hi, rfl⟩ := List.mem_iff_getElem.mp hp
  obtain ⟨c, _, q⟩ := h.cell (List.getElem?_eq_getElem hi)
  obtain ⟨o, e, n, _⟩ := q.stands
  exact ⟨o, e, n⟩
/-- a place is written -/
theorem StR.write {i : Nat} {a : Addr} {c : Cl} {o : HO} (h : StR B T ρ H S) (e : ρ[i]? = some a) (hc : Go ρ ρ H (upd H a o) → CR B ρ (upd H a o) a c) : StR B T ρ (upd H a o) (S.set i c) ∧ Go ρ ρ H (upd H a o) := by
  have ha : a ∈ ρ := List.mem_of_getElem? e
  obtain ⟨o0, e0, n0⟩ := h.there ha
  have g : Go ρ ρ H (upd H a o) := ⟨List.prefix_refl _, fun _ h => .inl h, fun b u q hb _ => by rw [upd_ne (fun z => hb (by rw [z]; exact ha))]; exact q,
    fun b q => by
      by_cases hb : b = a
      · subst hb; rw [upd_same]; simp
      · rw [upd_ne hb]; exact q⟩
  refine ⟨⟨by rw [h.len, List.length_set], h.nd, fun j b d e1 e2 => ?_, fun p hp => ?_, h.ex, fun p hp => by
    have np : p ≠ a := fun z => h.ex a ha (by rw [← z]; exact hp)
    rw [upd_ne np]; exact h.exs p hp⟩, g⟩
  · by_cases hj : i = j
    · subst hj
      rw [e] at e1; cases e1
      have hi : i < S.length := by rw [← h.len]; exact (List.getElem?_eq_some_iff.mp e).1
      rw [List.getElem?_set_self hi] at e2; cases e2
      exact hc g
    · rw [List.getElem?_set_ne hj] at e2
      have nb : b ≠ a := fun z => by
        subst z
        obtain ⟨h1, q1⟩ := List.getElem?_eq_some_iff.mp e
        obtain ⟨h2, q2⟩ := List.getElem?_eq_some_iff.mp e1
        exact hj ((List.getElem_inj h.nd).mp (q1.trans q2.symm))
      exact (h.cl j b d e1 e2).mono g (upd_ne nb)
  · obtain ⟨ps, q1, q2, q3⟩ := h.tabs p hp
    have np : p.1 ≠ a := fun z => by rw [z, e0] at q1; exact n0 ps (Option.some.inj q1)
    refine ⟨ps, by rw [upd_ne np]; exact q1, q2, fun pos cv hcv => ?_⟩
    obtain ⟨c', k1, k2⟩ := q3 pos cv hcv
    refine ⟨c', k1, ?_⟩
    by_cases hca : c' = a
    · subst hca
      exfalso
      obtain ⟨j, hj⟩ := List.mem_iff_getElem?.mp ha
      obtain ⟨d, _, qd⟩ := h.cell hj
      unfold LamX.CodeO at k2
      cases d with
      | lst xs => obtain ⟨_, z, _⟩ := qd; rw [k2] at z; cases z
      | dct xs => obtain ⟨_, z, _⟩ := qd; rw [k2] at z; cases z
      | ins C xs => obtain ⟨_, _, _, z, _⟩ := qd; rw [k2] at z; cases z
    · rw [upd_ne hca]; exact k2
/-- a new thing that nobody changes -/
theorem StR.fresh {a : Addr} {o : HO} (h : StR B T ρ H S) (hn : H a = none) : StR B T ρ (upd H a o) S ∧ Go ρ ρ H (upd H a o) ∧ out B ρ a := by
  have na : a ∉ ρ := fun z => by obtain ⟨o, e, _⟩ := h.there z; rw [hn] at e; cases e
  have ne : ∀ b u, H b = some u → b ≠ a := fun b u q z => by rw [z, hn] at q; cases q
  have g : Go ρ ρ H (upd H a o) := ⟨List.prefix_refl _, fun _ h => .inl h, fun b u q _ _ => by rw [upd_ne (ne b u q)]; exact q, fun b q => by
      by_cases hb : b = a
      · subst hb; rw [upd_same]; simp
      · rw [upd_ne hb]; exact q⟩
  refine ⟨⟨h.len, h.nd, fun j b d e1 e2 => ?_, h.tabs.ext fun b u q => by rw [upd_ne (ne b u q)]; exact q, h.ex, fun p hp => by
    obtain ⟨u, hu, hd⟩ := h.exs p hp
    exact ⟨u, by rw [upd_ne (ne p u hu)]; exact hu, hd⟩⟩, g, na, fun z => by
    obtain ⟨u, hu, _⟩ := h.exs a z
    rw [hn] at hu; cases hu⟩
  have hb : b ≠ a := fun z => na (by rw [← z]; exact List.mem_of_getElem? e1)
  exact (h.cl j b d e1 e2).mono g (upd_ne hb)
/-- a new place of the store -/
theorem StR.push {a : Addr} {o : HO} {c : Cl} (h : StR B T ρ H S) (hn : H a = none) (hc : ∀ ρ', Go ρ ρ' H (upd H a o) → CR B ρ' (upd H a o) a c) :
    StR B T (ρ ++ [a]) (upd H a o) (S ++ [c]) ∧ Go ρ (ρ ++ [a]) H (upd H a o) := by
  obtain ⟨h1, g, na⟩ := h.fresh (o := o) hn
  have g2 : Go ρ (ρ ++ [a]) H (upd H a o) := ⟨List.prefix_append _ _, fun b hb => by
    rcases List.mem_append.mp hb with z | z
    · exact .inl z
    · have : b = a := by simpa using z
      rw [this]; exact .inr hn, g.keep, g.live⟩
  refine ⟨⟨by simp [h.len], by
    rw [List.nodup_append]
    exact ⟨h.nd, by simp, fun x hx y hy => by
      have : y = a := by simpa using hy
      subst this
      exact fun z => na.1 (z ▸ hx)⟩, fun j b d e1 e2 => ?_, h1.tabs, fun p hp => by
      rcases List.mem_append.mp hp with z | z
      · exact h.ex p z
      · have : p = a := by simpa using z
        rw [this]; exact na.2, h1.exs⟩, g2⟩
  by_cases hj : j < S.length
  · rw [List.getElem?_append_left hj] at e2
    rw [List.getElem?_append_left (by rw [h.len]; exact hj)] at e1
    have hb : b ≠ a := fun z => na.1 (by rw [← z]; exact List.mem_of_getElem? e1)
    exact (h.cl j b d e1 e2).mono g2 (upd_ne hb)
  · have hj2 : j = S.length := by
      have := (List.getElem?_eq_some_iff.mp e2).1
      simp at this; omega
    subst hj2
    have hl := h.len
    rw [← hl] at e1
    simp at e1
    simp at e2
    subst e1; subst e2
    exact hc _ g2
end
end Sv
end

section
set_option Elab.async false
set_option linter.all false
set_option maxRecDepth 100000
set_option maxHeartbeats 1000000
/-! operators, by values -/
namespace Sv
open PySem PySem.Spec PyProof.Rows L2
theorem noPylong_of {i j : Int} (h : ¬ (divLine ≤ j.natAbs ∧ numLine ≤ i.natAbs)) : Builtin.divisionGoesByPylong i j = false := by
  by_cases hd : divLine ≤ j.natAbs
  · have hn : i.natAbs < numLine := by
      rcases Nat.lt_or_ge i.natAbs numLine with z | z
      · exact z
      · exact absurd ⟨hd, z⟩ h
    have k1 : (if i == 0 then 0 else i.natAbs.log2 / 30 + 1) ≤ 450 := by
      by_cases hy : (i == 0) = true
      · rw [if_pos hy]; exact Nat.zero_le _
      · rw [if_neg hy]
        have h0 : i.natAbs ≠ 0 := fun z => hy (by rw [Int.natAbs_eq_zero.mp z]; rfl)
        have : i.natAbs.log2 < 13500 := (Nat.log2_lt h0).mpr hn
        omega
    have key : ∀ n : Nat, (decide (n > 300) && decide ((if i == 0 then 0 else i.natAbs.log2 / 30 + 1) > n + 150)) = false := fun n => by
      by_cases hn : n > 300
      · have : ¬ ((if i == 0 then 0 else i.natAbs.log2 / 30 + 1) > n + 150) := by omega
        rw [decide_eq_false this, Bool.and_false]
      · rw [decide_eq_false hn, Bool.false_and]
    exact key _
  · refine PyProof.noPylong_of_log2 ?_
    by_cases h0 : j.natAbs = 0
    · rw [h0]; decide
    · exact (Nat.log2_lt h0).mpr (Nat.not_le.mp hd)

/-- what follows a value -/
def OkV (B : Bk) (T : List (Addr × Str)) (ρ : List Addr) (H : Hp) (r : Rs PV) (Q : VK) : Prop := match r with
  | .ok v S' => ∀ x ρ' H', Go ρ ρ' H H' → StR B T ρ' H' S' → VR B ρ' H' v x → Q x H'
  | _ => False
section
variable {B : Bk} {T : List (Addr × Str)} {ρ : List Addr} {H : Hp} {S : Store} {Q : VK}
theorem OkV.int {i : Int} (st : StR B T ρ H S) (h : OkV B T ρ H (.ok (.int i) S) Q) : Q (.int i) H := h _ ρ H (Go.refl _ _) st (by rw [VR])
theorem OkV.bl {i : Bool} (st : StR B T ρ H S) (h : OkV B T ρ H (.ok (.bl i) S) Q) : Q (.bl i) H := h _ ρ H (Go.refl _ _) st (by rw [VR])
theorem OkV.non (st : StR B T ρ H S) (h : OkV B T ρ H (.ok .non S) Q) : Q .non H := h _ ρ H (Go.refl _ _) st (by rw [VR])
theorem OkV.str {z : Str} (st : StR B T ρ H S) (h : OkV B T ρ H (.ok (.str z) S) Q) : Q (.str z) H := h _ ρ H (Go.refl _ _) st (by rw [VR])
theorem OkV.same {v : PV} {x : V} (st : StR B T ρ H S) (r : VR B ρ H v x) (h : OkV B T ρ H (.ok v S) Q) : Q x H := h _ ρ H (Go.refl _ _) st r
theorem OkV.tup {xs : List PV} {vs : List V} (st : StR B T ρ H S) (r : VRs B ρ H xs vs) (h : OkV B T ρ H (.ok (.tup xs) S) Q) {p : Addr} (hp : H p = none) : Q (.ref p) (upd H p (.tup vs)) := by
  obtain ⟨st', g, np⟩ := st.fresh (o := .tup vs) hp
  refine h _ ρ _ g st' ?_
  rw [VR]
  exact ⟨p, vs, rfl, upd_same, np, r.mono g⟩
theorem OkV.mkL {m : Bool} {xs : List PV} {vs : List V} (st : StR B T ρ H S) (r : VRs B ρ H xs vs) (h : OkV B T ρ H (mkL m xs S) Q) {p : Addr} (hp : H p = none) : Q (.ref p) (upd H p (.lst vs)) := by
  cases m with
  | false =>
    obtain ⟨st', g, np⟩ := st.fresh (o := .lst vs) hp
    refine h _ ρ _ g st' ?_
    rw [VR]
    exact ⟨p, vs, rfl, upd_same, np, r.mono g⟩
  | true =>
    obtain ⟨st', g⟩ := st.push (o := .lst vs) (c := .lst xs) hp fun ρ' g => ⟨vs, upd_same, r.mono g⟩
    refine h _ _ _ g st' ?_
    rw [VR]
    exact ⟨p, rfl, by rw [← st.len]; simp⟩
/-- a list as it lies -/
theorem deref_lst {v : PV} {x : V} {xs : List PV} (st : StR B T ρ H S) (r : VR B ρ H v x) (h : deref v S = .lst xs) : ∃ a vs, x = .ref a ∧ H a = some (.lst vs) ∧ VRs B ρ H xs vs := by
  unfold deref at h
  split at h
  · rename_i i
    split at h
    · rename_i ys e
      cases h
      rw [VR] at r
      obtain ⟨a, ex, ha⟩ := r
      obtain ⟨vs, q, rv⟩ := st.cl i a _ ha e
      exact ⟨a, vs, ex, q, rv⟩
    · cases h
  · subst h
    rw [VR] at r
    obtain ⟨a, vs, ex, q, _, rv⟩ := r
    exact ⟨a, vs, ex, q, rv⟩
/-- items as they lie -/
theorem items_seq2 {v : PV} {x : V} {xs : List PV} (st : StR B T ρ H S) (r : VR B ρ H v x) (h : items v S = some xs) :
    ∃ a vs, x = .ref a ∧ ((v = .tup xs ∧ SqT B.K H a vs) ∨ SqL B.K H a vs) ∧ VRs B ρ H xs vs := by
  unfold items at h
  split at h
  · cases h
    rw [VR] at r
    obtain ⟨a, vs, ex, q, _, rv⟩ := r
    exact ⟨a, vs, ex, .inl ⟨rfl, .of q⟩, rv⟩
  · cases h
    rw [VR] at r
    obtain ⟨a, vs, ex, q, _, rv⟩ := r
    exact ⟨a, vs, ex, .inr (.of q), rv⟩
  · cases h
    rw [VR] at r
    obtain ⟨a, vs, ex, q, rv⟩ := r
    refine ⟨a, vs, ex, .inr ?_, rv⟩
    rcases q with ⟨q, _⟩ | q
    · exact .inl q
    · exact q H
  · rename_i i
    split at h
    · rename_i ys e
      cases h
      rw [VR] at r
      obtain ⟨a, ex, ha⟩ := r
      obtain ⟨vs, q, rv⟩ := st.cl i a _ ha e
      exact ⟨a, vs, ex, .inr (.of q), rv⟩
    · cases h
  · cases h
theorem items_seq {v : PV} {x : V} {xs : List PV} (st : StR B T ρ H S) (r : VR B ρ H v x) (h : items v S = some xs) :
    ∃ a vs, x = .ref a ∧ (SqL B.K H a vs ∨ SqT B.K H a vs) ∧ VRs B ρ H xs vs := by
  obtain ⟨a, vs, e, h | h, r⟩ := items_seq2 st r h
  · exact ⟨a, vs, e, .inr h.2, r⟩
  · exact ⟨a, vs, e, .inl h, r⟩
end

theorem repL_eq (xs : List PV) : ∀ n : Nat, repL xs n = (List.replicate n xs).flatten
  | 0 => rfl
  | n + 1 => by simp [repL, repL_eq xs n, List.replicate_succ]
theorem VRs.rep {B : Bk} {ρ : List Addr} {H : Hp} {xs : List PV} {vs : List V} (h : VRs B ρ H xs vs) : ∀ n : Nat, VRs B ρ H (repL xs n) (List.replicate n vs).flatten
  | 0 => .nil
  | n + 1 => by
    rw [List.replicate_succ, List.flatten_cons]
    exact h.append (VRs.rep h n)
theorem line_le : line ≤ sizeLine := by rw [sizeLine_eq]; decide
theorem mulOk.ok {i j : Int} (h : mulOk i j) : IntMulOk i j := by
  have b : ∀ x : Int, Builtin.Int.intBits x ≤ x.natAbs.log2 + 1 := fun x => by
    unfold Builtin.Int.intBits
    split <;> omega
  have h1 := b i
  have h2 := b j
  have h3 : i.natAbs.log2 + j.natAbs.log2 < 100000000 := h
  have e : bitsLine = 134217728 := by decide
  unfold IntMulOk
  intro z
  rw [Bool.and_eq_true] at z
  have z2 := z.2
  unfold Builtin.Int.intTooBig at z2
  have z3 := of_decide_eq_true z2
  rw [e] at z3
  omega

/-! ### a tuple so many times -/
theorem tuple_mul_same (l : Addr) (items : Array Value) (n : Nat) (dd : Option Addr) (sl : Array (Option Value)) (x : Int) (u : Tok) (c0 : (decide (x < -(2 ^ 63)) || decide (x ≥ 2 ^ 63)) = false) (c1 : (items.isEmpty || x == 1) = true) :
    Meets (Builtin.«tuple.__mul__» ⟨[.ref l, .int x u], []⟩) (fun _ R s => s.heap.get? l = some { cls := .type "tuple", dict := dd, data := .seq items n, slots := sl } ∧
      R (.ok (.ret (Value.ref l))) s) :=
  .of_wp fun prog w A R s h => by
    obtain ⟨hp, g, d, tk, os⟩ := s
    obtain ⟨hl, h⟩ := h
    have f1 := AutoSeq1.idx_int
    wp_walk using wpAny_loadPart' hl
    repeat (first
      | (refine wpAny_ite_false (decide_eq_false (by rw [c0]; exact Bool.false_ne_true)) ?_; wp_walk using wpAny_loadPart' hl)
      | (refine wpAny_ite_true (decide_eq_true c1) ?_; wp_walk using wpAny_loadPart' hl))
    exact ⟨_, rfl, h⟩
theorem tuple_mul_none (l : Addr) (items : Array Value) (n : Nat) (dd : Option Addr) (sl : Array (Option Value)) (x : Int) (u : Tok) (c0 : (decide (x < -(2 ^ 63)) || decide (x ≥ 2 ^ 63)) = false) (c1 : (items.isEmpty || x == 1) = false) (c2 : (decide (x ≤ 0) || items.isEmpty) = true) :
    Meets (Builtin.«tuple.__mul__» ⟨[.ref l, .int x u], []⟩) (fun _ R s => s.heap.get? l = some { cls := .type "tuple", dict := dd, data := .seq items n, slots := sl } ∧
      R (.ok (.ret (Value.ref s.heap.objs.size))) { s with heap := s.heap.push { cls := Value.type "tuple", data := Data.seq #[] }, toks := s.toks }) :=
  .of_wp fun prog w A R s h => by
    obtain ⟨hp, g, d, tk, os⟩ := s
    obtain ⟨hl, h⟩ := h
    have f1 := AutoSeq1.idx_int
    have hz : (#[] : Array Value).size ≤ sizeLine := Nat.zero_le _
    wp_walk using wpAny_loadPart' hl
    repeat (first
      | (refine wpAny_ite_false (decide_eq_false (by rw [c0]; exact Bool.false_ne_true)) ?_; wp_walk using wpAny_loadPart' hl)
      | (refine wpAny_ite_false (decide_eq_false (by rw [c1]; exact Bool.false_ne_true)) ?_; wp_walk using wpAny_loadPart' hl)
      | (refine wpAny_ite_true (decide_eq_true c2) ?_; wp_walk using wpAny_loadPart' hl)
      | (refine wpAny_ite_false (decide_eq_false (Nat.not_lt.mpr hz)) ?_; wp_walk using wpAny_loadPart' hl))
    exact ⟨_, rfl, h⟩
def rRepT' (K : PySem.W.Frag) : R2 := fun x y H Q => ∃ l k xs, x = .ref l ∧ y = .int k ∧ SqT K H l xs ∧ -1000000 ≤ k ∧ k ≤ 1000 ∧ xs.length ≤ 1000 ∧
  (xs = [] ∨ k = 1 → Q (.ref l) H) ∧ (xs ≠ [] → k ≠ 1 → ∀ p, H p = none → Q (.ref p) (upd H p (.tup (List.replicate k.toNat xs).flatten)))
theorem op_repT' {X : Cx} : OpR X (binaryOp .Mult) (rRepT' X.K) := by
  intro pins s σ H x y v u Q I rx ry h
  obtain ⟨l, k, xs, rfl, rfl, hT, h0, h1, hz, qs, qn⟩ := h
  by_cases hb : xs = [] ∨ k = 1
  · have q := qs hb
    cases rx
    obtain ⟨t, rfl⟩ := ry
    obtain ⟨its, r, ⟨⟨cls, dd, data, sl⟩, ho, hc, n, hd⟩, hs⟩ := I.tuple hT
    simp only at hc hd
    subst hc hd
    have hle : its.length = xs.length := r.length.symm
    have c0 : (decide (k < -(2 ^ 63)) || decide (k ≥ 2 ^ 63)) = false := by
      rw [decide_eq_false (by omega), decide_eq_false (by omega)] <;> rfl
    have c1 : (its.toArray.isEmpty || k == 1) = true := by
      rcases hb with e | e
      · subst e
        have : its = [] := List.eq_nil_of_length_eq_zero (by simpa using hle)
        subst this; rfl
      · subst e; simp
    refine wpAny_binaryOp_repeat_ref (T := "tuple") (U := "int") (by decide) ⟨_, ho, rfl⟩ (fun s' => typeIs_int s' k t) noFill_tuple_mul F.fills_int_mul F.slot_int_rmul repeat_tuple F.slot_int_index.lookup
      (call_meets F.slot_int_rmul (typeIs_int s k t) F.entry_int_rmul (F.args_int_rmul_2 _ _) (int_rmul_tuple k t l its.toArray n dd sl)
        ⟨ho, rfl, ⟨_, ho, rfl⟩, call_meets F.slot_tuple_mul ⟨_, ho, rfl⟩ F.entry_tuple_mul (F.args_tuple_mul_2 _ _) (tuple_mul_same l its.toArray n dd sl k t c0 c1) ⟨ho, ?_⟩⟩)
    exact ⟨.ref l, H, I, rfl, q⟩
  · have hx : xs ≠ [] := fun e => hb (.inl e)
    have hk : k ≠ 1 := fun e => hb (.inr e)
    have q := qn hx hk
    by_cases h2 : 2 ≤ k
    · exact op_repT pins s σ H _ _ v u Q I rx ry ⟨l, k, xs, rfl, rfl, hT, hx, h2, h1, hz, q⟩
    · cases rx
      obtain ⟨t, rfl⟩ := ry
      obtain ⟨its, r, ⟨⟨cls, dd, data, sl⟩, ho, hc, n, hd⟩, hs⟩ := I.tuple hT
      simp only at hc hd
      subst hc hd
      have hle : its.length = xs.length := r.length.symm
      have hn : its ≠ [] := fun e => hx (by
        rw [e] at hle
        exact List.eq_nil_of_length_eq_zero hle.symm)
      have c0 : (decide (k < -(2 ^ 63)) || decide (k ≥ 2 ^ 63)) = false := by
        rw [decide_eq_false (by omega), decide_eq_false (by omega)] <;> rfl
      have hi : its.toArray.isEmpty = false := by
        cases its with
        | nil => exact absurd rfl hn
        | cons a b => rfl
      have c1 : (its.toArray.isEmpty || k == 1) = false := by
        rw [hi, Bool.false_or]
        exact beq_eq_false_iff_ne.mpr hk
      have c2 : (decide (k ≤ 0) || its.toArray.isEmpty) = true := by
        rw [decide_eq_true (by omega)]; rfl
      have e0 : (List.replicate k.toNat xs).flatten = [] := by
        have : k.toNat = 0 := by omega
        rw [this]; rfl
      rw [e0] at q
      refine wpAny_binaryOp_repeat_ref (T := "tuple") (U := "int") (by decide) ⟨_, ho, rfl⟩ (fun s' => typeIs_int s' k t) noFill_tuple_mul F.fills_int_mul F.slot_int_rmul repeat_tuple F.slot_int_index.lookup
        (call_meets F.slot_int_rmul (typeIs_int s k t) F.entry_int_rmul (F.args_int_rmul_2 _ _) (int_rmul_tuple k t l its.toArray n dd sl)
          ⟨ho, rfl, ⟨_, ho, rfl⟩, call_meets F.slot_tuple_mul ⟨_, ho, rfl⟩ F.entry_tuple_mul (F.args_tuple_mul_2 _ _) (tuple_mul_none l its.toArray n dd sl k t c0 c1 c2) ⟨ho, ?_⟩⟩)
      refine ⟨.ref s.heap.objs.size, _, I.laid (t' := s.toks) (o := .tup []) (fun b ob q => Heap.get?_push_of_some _ q) (Nat.le_refl _) ?_, rfl, q _ (I.hok.fresh (Nat.le_refl _))⟩
      exact ⟨Nat.zero_le _, [], .nil, IsTup.new _ _⟩

/-! ### the operators -/
def boOp : Bo → Operator
  | .add => .Add
  | .sub => .Sub
  | .mul => .Mult
  | .fdiv => .FloorDiv
  | .mod => .Mod
  | .pow => .Pow
def rBin (B : Bk) (T : List (Addr × Str)) (o : Bo) (m : Bool) : R2 := fun x y H Q => ∃ ρ S vx vy, StR B T ρ H S ∧ VR B ρ H vx x ∧ VR B ρ H vy y ∧ OkV B T ρ H (binop o m vx vy S) Q
theorem bin_ok {X : Cx} {B : Bk} {T : List (Addr × Str)} (hK : B.K = X.K) {o : Bo} {m : Bool} : OpR X (binaryOp (boOp o)) (rBin B T o m) := by
  intro pins s σ H x y v u Q I rx ry h
  obtain ⟨ρ, S, vx, vy, st, r1, r2, ok⟩ := h
  unfold binop at ok
  split at ok
  · rw [VR] at r1 r2
    exact op_add pins s σ H x y v u Q I rx ry ⟨_, _, r1, r2, ok.int st⟩
  · rw [VR] at r1 r2
    exact op_sub pins s σ H x y v u Q I rx ry ⟨_, _, r1, r2, ok.int st⟩
  · rw [VR] at r1 r2
    split at ok
    · rename_i hm
      subst r1; subst r2
      obtain ⟨t, rfl⟩ := rx
      obtain ⟨t', rfl⟩ := ry
      exact PyProof.Rows.mul_int ⟨.int _, H, I.tok _, ⟨_, rfl⟩, ok.int st⟩ hm.ok
    · exact ok.elim
  · rw [VR] at r1 r2
    split at ok
    · exact ok.elim
    · rename_i hj
      subst r1; subst r2
      obtain ⟨t, rfl⟩ := rx
      obtain ⟨t', rfl⟩ := ry
      rename_i i j
      exact PyProof.Rows.floordiv_int (fun z => hj (.inl z)) ⟨.int _, H, I.tok _, ⟨_, rfl⟩, ok.int st⟩ (.inl (noPylong_of fun z => hj (.inr z)))
  · rw [VR] at r1 r2
    split at ok
    · exact ok.elim
    · rename_i hj
      exact op_modN pins s σ H x y v u Q I rx ry ⟨_, _, r1, r2, hj, ok.int st⟩
  · rw [VR] at r1 r2
    split at ok
    · rename_i hj
      exact op_pow pins s σ H x y v u Q I rx ry ⟨_, _, r1, r2, ⟨hj.1, by have := hj.2.1; omega, hj.2.2⟩, ok.int st⟩
    · exact ok.elim
  · split at ok
    · rename_i hl
      have r1' := r1
      have r2' := r2
      rw [VR] at r1 r2
      obtain ⟨a, vs, e1, q1, n1, k1⟩ := r1
      obtain ⟨b, ws, e2, q2, n2, k2⟩ := r2
      refine op_catA pins s σ H x y v u Q I rx ry ⟨a, b, vs, ws, e1, e2, .of q1, .of q2, ?_, fun e => ?_, fun _ e => ?_, fun _ _ p hp => ?_⟩
      · rw [← k1.length, ← k2.length]
        exact Nat.le_trans hl line_le
      · subst e
        have z := k1.length
        have : ∀ l : List PV, l.length = 0 → l = [] := fun l => List.eq_nil_of_length_eq_zero
        rw [this _ z, List.nil_append] at ok
        rw [← e2]
        exact ok.same st r2'
      · subst e
        have z := k2.length
        have : ∀ l : List PV, l.length = 0 → l = [] := fun l => List.eq_nil_of_length_eq_zero
        rw [this _ z, List.append_nil] at ok
        rw [← e1]
        exact ok.same st r1'
      · exact ok.tup st (k1.append k2) hp
    · exact ok.elim
  · split at ok
    · rename_i hl
      have r1' := r1
      obtain ⟨a, vs, e1, q1, n1, k1⟩ := vr_tup.mp r1
      replace r2 := vr_int.mp r2
      rename_i xs j
      have lv := k1.length
      refine op_repT' pins s σ H x y v u Q I rx ry ⟨a, j, vs, e1, r2, .of q1, hl.1.1, hl.1.2, by omega, fun e => ?_, fun _ _ p hp => ?_⟩
      · rw [← e1]
        refine OkV.same (v := .tup xs) st r1' ?_
        have e3 : repL xs j.toNat = xs := by
          rcases e with e | e
          · subst e
            have : xs = [] := List.eq_nil_of_length_eq_zero lv
            subst this
            rw [repL_eq]
            generalize j.toNat = n
            induction n with
            | zero => rfl
            | succ n ih => rw [List.replicate_succ, List.flatten_cons, ih]; rfl
          · subst e
            show xs ++ [] = xs
            simp
        rw [e3] at ok
        exact ok
      · exact ok.tup st (k1.rep _) hp
    · exact ok.elim
  · split at ok
    · rename_i xs hd
      split at ok
      · rename_i hl
        obtain ⟨a, vs, e1, q1, k1⟩ := deref_lst st r1 hd
        replace r2 := vr_int.mp r2
        have lv := k1.length
        have key : ∀ j : Int, j ≤ 1000 → vs.length * j.toNat ≤ sizeLine := fun j hj => by
          rw [sizeLine_eq, ← lv]
          have : xs.length * j.toNat ≤ 16 * 1000 := Nat.mul_le_mul hl.2 (by omega)
          omega
        exact op_rep pins s σ H x y v u Q I rx ry ⟨a, _, vs, e1, r2, q1, by omega, by omega, key _ hl.1.2, fun p hp => ok.mkL st (k1.rep _) hp⟩
      · exact ok.elim
    · exact ok.elim
  · split at ok
    · rename_i xs ys hd1 hd2
      split at ok
      · rename_i hl
        obtain ⟨a, vs, e1, q1, k1⟩ := deref_lst st r1 hd1
        obtain ⟨b, ws, e2, q2, k2⟩ := deref_lst st r2 hd2
        refine op_cat pins s σ H x y v u Q I rx ry ⟨a, b, vs, ws, e1, e2, q1, q2, ?_, fun p hp => ok.mkL st (k1.append k2) hp⟩
        rw [← k1.length, ← k2.length]
        exact Nat.le_trans hl line_le
      · exact ok.elim
    · exact ok.elim
  · exact ok.elim
end Sv
end

section
set_option Elab.async false
set_option linter.all false
set_option maxRecDepth 100000
set_option maxHeartbeats 1000000
/-! comparisons, by values -/
namespace Sv
open PySem PySem.Spec PyProof.Rows L2
mutual
def toD : PV → PyData
  | .bl b => .bool b
  | .int i => .int i
  | .str x => .str x
  | .tup xs => .tuple (toDs xs)
  | .lst xs => .list (toDs xs)
  | _ => .none
def toDs : List PV → List PyData
  | [] => []
  | x :: xs => toD x :: toDs xs
end
theorem lay_of : ∀ {k : Nat} {x : PV}, isD k x = true → (toD x).canLay0 = true ∧ (toD x).depth ≤ k
  | k, .non, _ => ⟨by simp [toD, PyData.canLay0], by simp [toD, PyData.depth]⟩
  | k, .bl b, _ => ⟨by simp [toD, PyData.canLay0], by simp [toD, PyData.depth]⟩
  | k, .int i, _ => ⟨by simp [toD, PyData.canLay0], by simp [toD, PyData.depth]⟩
  | k, .str x, h => ⟨by simpa [toD, PyData.canLay0, PyData.strOk, isD] using h, by simp [toD, PyData.depth]⟩
  | k + 1, .tup xs, h => by
    have hx : ∀ x ∈ xs, isD k x = true := by
      have : xs.all (isD k) = true := by simpa [isD] using h
      exact List.all_eq_true.mp this
    have key : ∀ xs : List PV, (∀ x ∈ xs, isD k x = true) → PyData.canLayAll0 (toDs xs) = true ∧ PyData.depthAll (toDs xs) ≤ k := fun xs => by
      induction xs with
      | nil => intro _; exact ⟨by simp [toDs, PyData.canLayAll0], by simp [toDs, PyData.depthAll]⟩
      | cons y ys ih =>
        intro hy
        obtain ⟨a, b⟩ := lay_of (hy y List.mem_cons_self)
        obtain ⟨c, d⟩ := ih fun z hz => hy z (List.mem_cons_of_mem _ hz)
        exact ⟨by simp [toDs, PyData.canLayAll0, a, c], by simp only [toDs, PyData.depthAll]; omega⟩
    obtain ⟨a, b⟩ := key xs hx
    exact ⟨by simpa [toD, PyData.canLay0] using a, by simp only [toD, PyData.depth]; omega⟩
  | k + 1, .lst xs, h => by
    have hx : ∀ x ∈ xs, isD k x = true := by
      have : xs.all (isD k) = true := by simpa [isD] using h
      exact List.all_eq_true.mp this
    have key : ∀ xs : List PV, (∀ x ∈ xs, isD k x = true) → PyData.canLayAll0 (toDs xs) = true ∧ PyData.depthAll (toDs xs) ≤ k := fun xs => by
      induction xs with
      | nil => intro _; exact ⟨by simp [toDs, PyData.canLayAll0], by simp [toDs, PyData.depthAll]⟩
      | cons y ys ih =>
        intro hy
        obtain ⟨a, b⟩ := lay_of (hy y List.mem_cons_self)
        obtain ⟨c, d⟩ := ih fun z hz => hy z (List.mem_cons_of_mem _ hz)
        exact ⟨by simp [toDs, PyData.canLayAll0, a, c], by simp only [toDs, PyData.depthAll]; omega⟩
    obtain ⟨a, b⟩ := key xs hx
    exact ⟨by simpa [toD, PyData.canLay0] using a, by simp only [toD, PyData.depth]; omega⟩
  | 0, .tup _, h => by simp [isD] at h
  | 0, .lst _, h => by simp [isD] at h
  | 0, .fz _, h => by simp [isD] at h
  | 0, .ins _ _, h => by simp [isD] at h
  | 0, .exc _ _, h => by simp [isD] at h
  | 0, .loc _, h => by simp [isD] at h
  | 0, .clo _, h => by simp [isD] at h
  | 0, .dic, h => by simp [isD] at h
  | k + 1, .fz _, h => by simp [isD] at h
  | k + 1, .ins _ _, h => by simp [isD] at h
  | k + 1, .exc _ _, h => by simp [isD] at h
  | k + 1, .loc _, h => by simp [isD] at h
  | k + 1, .clo _, h => by simp [isD] at h
  | k + 1, .dic, h => by simp [isD] at h
theorem shaped_of {k : Nat} {x : PV} (h : isD k x = true) (hk : k ≤ 64) : SeqAt.shaped (toD x) = true := by
  obtain ⟨a, b⟩ := lay_of h
  exact Bool.and_eq_true_iff.mpr ⟨a, decide_eq_true (by omega)⟩
section
variable {B : Bk} {ρ : List Addr} {H : Hp}
theorem dp_of : ∀ {k : Nat} {x : PV} {v : V}, isD k x = true → VR B ρ H x v → Dp B.K H v (toD x)
  | k, .non, v, _, r => by rw [vr_non.mp r]; simp only [toD]; exact .non
  | k, .bl b, v, _, r => by rw [vr_bl.mp r]; simp only [toD]; exact .bl b
  | k, .int i, v, _, r => by rw [vr_int.mp r]; simp only [toD]; exact .int i
  | k, .str x, v, h, r => by rw [vr_str.mp r]; simp only [toD]; exact .str x
  | k + 1, .tup xs, v, h, r => by
    obtain ⟨a, vs, rfl, q, _, rs⟩ := vr_tup.mp r
    have hx : ∀ x ∈ xs, isD k x = true := by
      have : xs.all (isD k) = true := by simpa [isD] using h
      exact List.all_eq_true.mp this
    have key : ∀ (xs : List PV) (vs : List V), (∀ x ∈ xs, isD k x = true) → VRs B ρ H xs vs → DpAll B.K H vs (toDs xs) := fun xs => by
      induction xs with
      | nil => intro vs _ rs; rw [rs.unnil, toDs]; exact .nil
      | cons y ys ih =>
        intro vs hy rs
        obtain ⟨w, ws, rfl, r1, r2⟩ := rs.uncons
        rw [toDs]
        exact .cons (dp_of (hy y List.mem_cons_self) r1) (ih ws (fun z hz => hy z (List.mem_cons_of_mem _ hz)) r2)
    simp only [toD]
    exact .tup (.of q) (key xs vs hx rs)
  | k + 1, .lst xs, v, h, r => by
    obtain ⟨a, vs, rfl, q, _, rs⟩ := vr_lst.mp r
    have hx : ∀ x ∈ xs, isD k x = true := by
      have : xs.all (isD k) = true := by simpa [isD] using h
      exact List.all_eq_true.mp this
    have key : ∀ (xs : List PV) (vs : List V), (∀ x ∈ xs, isD k x = true) → VRs B ρ H xs vs → DpAll B.K H vs (toDs xs) := fun xs => by
      induction xs with
      | nil => intro vs _ rs; rw [rs.unnil, toDs]; exact .nil
      | cons y ys ih =>
        intro vs hy rs
        obtain ⟨w, ws, rfl, r1, r2⟩ := rs.uncons
        rw [toDs]
        exact .cons (dp_of (hy y List.mem_cons_self) r1) (ih ws (fun z hz => hy z (List.mem_cons_of_mem _ hz)) r2)
    simp only [toD]
    exact .lst (.of q) (key xs vs hx rs)
  | 0, .tup _, _, h, _ => by simp [isD] at h
  | 0, .lst _, _, h, _ => by simp [isD] at h
  | 0, .fz _, _, h, _ => by simp [isD] at h
  | 0, .ins _ _, _, h, _ => by simp [isD] at h
  | 0, .exc _ _, _, h, _ => by simp [isD] at h
  | 0, .loc _, _, h, _ => by simp [isD] at h
  | 0, .clo _, _, h, _ => by simp [isD] at h
  | 0, .dic, _, h, _ => by simp [isD] at h
  | k + 1, .fz _, _, h, _ => by simp [isD] at h
  | k + 1, .ins _ _, _, h, _ => by simp [isD] at h
  | k + 1, .exc _ _, _, h, _ => by simp [isD] at h
  | k + 1, .loc _, _, h, _ => by simp [isD] at h
  | k + 1, .clo _, _, h, _ => by simp [isD] at h
  | k + 1, .dic, _, h, _ => by simp [isD] at h
theorem dps_of {k : Nat} : ∀ {xs : List PV} {vs : List V}, (∀ x ∈ xs, isD k x = true) → VRs B ρ H xs vs → DpAll B.K H vs (toDs xs)
  | [], vs, _, rs => by rw [rs.unnil, toDs]; exact .nil
  | y :: ys, vs, hy, rs => by
    obtain ⟨w, ws, rfl, r1, r2⟩ := rs.uncons
    rw [toDs]
    exact .cons (dp_of (hy y List.mem_cons_self) r1) (dps_of (fun z hz => hy z (List.mem_cons_of_mem _ hz)) r2)
end
mutual
theorem eqv_toD : ∀ {j k : Nat} {x y : PV}, isD j x = true → isD k y = true → PyData.eqv (toD x) (toD y) = peq x y
  | _, _, .non, y, _, hy => by cases y <;> first | (simp [toD, PyData.eqv, peq]; done) | (exfalso; cases ‹Nat› <;> simp [isD] at hy)
  | _, _, .bl b, y, _, hy => by cases y <;> first | (simp [toD, PyData.eqv, peq, b2i]; done) | (simp only [toD, PyData.eqv, peq]; cases b <;> rfl) | (exfalso; cases ‹Nat› <;> simp [isD] at hy)
  | _, _, .int i, y, _, hy => by cases y <;> first | (simp [toD, PyData.eqv, peq, b2i]; done) | (simp only [toD, PyData.eqv, peq, b2i]; rename_i b; cases b <;> rfl) | (exfalso; cases ‹Nat› <;> simp [isD] at hy)
  | _, _, .str z, y, _, hy => by cases y <;> first | (simp [toD, PyData.eqv, peq]; done) | (exfalso; cases ‹Nat› <;> simp [isD] at hy)
  | j + 1, k, .tup xs, y, hx, hy => by
    have h1 : ∀ x ∈ xs, isD j x = true := List.all_eq_true.mp (by simpa [isD] using hx)
    cases y with
    | tup ys =>
      cases k with
      | zero => simp [isD] at hy
      | succ k =>
        have h2 : ∀ x ∈ ys, isD k x = true := List.all_eq_true.mp (by simpa [isD] using hy)
        simp only [toD, PyData.eqv, peq]
        exact eqvs_toD h1 h2
    | _ => first | (simp [toD, PyData.eqv, peq]; done) | (exfalso; cases k <;> simp [isD] at hy)
  | j + 1, k, .lst xs, y, hx, hy => by
    have h1 : ∀ x ∈ xs, isD j x = true := List.all_eq_true.mp (by simpa [isD] using hx)
    cases y with
    | lst ys =>
      cases k with
      | zero => simp [isD] at hy
      | succ k =>
        have h2 : ∀ x ∈ ys, isD k x = true := List.all_eq_true.mp (by simpa [isD] using hy)
        simp only [toD, PyData.eqv, peq]
        exact eqvs_toD h1 h2
    | _ => first | (simp [toD, PyData.eqv, peq]; done) | (exfalso; cases k <;> simp [isD] at hy)
  | 0, _, .tup _, _, h, _ => by simp [isD] at h
  | 0, _, .lst _, _, h, _ => by simp [isD] at h
  | 0, _, .fz _, _, h, _ => by simp [isD] at h
  | 0, _, .ins _ _, _, h, _ => by simp [isD] at h
  | 0, _, .exc _ _, _, h, _ => by simp [isD] at h
  | 0, _, .loc _, _, h, _ => by simp [isD] at h
  | 0, _, .clo _, _, h, _ => by simp [isD] at h
  | 0, _, .dic, _, h, _ => by simp [isD] at h
  | j + 1, _, .fz _, _, h, _ => by simp [isD] at h
  | j + 1, _, .ins _ _, _, h, _ => by simp [isD] at h
  | j + 1, _, .exc _ _, _, h, _ => by simp [isD] at h
  | j + 1, _, .loc _, _, h, _ => by simp [isD] at h
  | j + 1, _, .clo _, _, h, _ => by simp [isD] at h
  | j + 1, _, .dic, _, h, _ => by simp [isD] at h
theorem eqvs_toD : ∀ {j k : Nat} {xs ys : List PV}, (∀ x ∈ xs, isD j x = true) → (∀ y ∈ ys, isD k y = true) → PyData.eqvAll (toDs xs) (toDs ys) = peqs xs ys
  | _, _, [], [], _, _ => by simp [toDs, PyData.eqvAll, peqs]
  | _, _, [], _ :: _, _, _ => by simp [toDs, PyData.eqvAll, peqs]
  | _, _, _ :: _, [], _, _ => by simp [toDs, PyData.eqvAll, peqs]
  | j, k, x :: xs, y :: ys, h1, h2 => by
    simp only [toDs, PyData.eqvAll, peqs]
    rw [eqv_toD (h1 x List.mem_cons_self) (h2 y List.mem_cons_self), eqvs_toD (fun z hz => h1 z (List.mem_cons_of_mem _ hz)) (fun z hz => h2 z (List.mem_cons_of_mem _ hz))]
end
section
variable {B : Bk} {T : List (Addr × Str)} {ρ : List Addr} {H : Hp} {S : Store} {Q : VK}
theorem dp_deref {x : PV} {v : V} (st : StR B T ρ H S) (r : VR B ρ H x v) (h : isD 16 (deref x S) = true) : Dp B.K H v (toD (deref x S)) := by
  cases e : deref x S with
  | lst xs =>
    obtain ⟨a, vs, rfl, q, rs⟩ := deref_lst st r e
    rw [e] at h
    have h1 : ∀ x ∈ xs, isD 15 x = true := List.all_eq_true.mp (by simpa [isD] using h)
    simp only [toD]
    exact .lst (.of q) (dps_of h1 rs)
  | _ =>
    have : deref x S = x := by
      unfold deref at e ⊢
      split
      · split
        · rename_i q; simp [q] at e
        · rfl
      · rfl
    rw [this] at h
    rw [← e, this]
    exact dp_of h r
end
def coOp : Co → CmpOp
  | .eq => .Eq
  | .ne => .NotEq
  | .lt => .Lt
  | .le => .LtE
  | .gt => .Gt
  | .ge => .GtE
  | .isIn => .In
  | .notIn => .NotIn
def isIns : PV → Bool
  | .ins _ _ => true
  | _ => false
theorem eqv_data {Φ : Phi} {x y : PV} {S : Store} {k : Bool → Store → Rs PV} (h : isIns x = false) :
    eqv Φ x y S k = if isD 16 (deref x S) = true ∧ isD 16 (deref y S) = true then k (peq (deref x S) (deref y S)) S else match deref x S, deref y S with
      | .lst xs, .lst ys => if xs.length = ys.length then .no else k false S
      | _, _ => .no := by
  cases x <;> first | rfl | (simp [isIns] at h)
def toV : PV → V
  | .bl b => .bl b
  | .int i => .int i
  | .str z => .str z
  | _ => .non
theorem flat_toV {B : Bk} {ρ : List Addr} {H : Hp} {x : PV} {v : V} (h : flat x = true) (r : VR B ρ H x v) : v = toV x := by
  cases x with
  | non => exact vr_non.mp r
  | bl b => exact vr_bl.mp r
  | int i => exact vr_int.mp r
  | str z => exact vr_str.mp r
  | _ => cases h
theorem eqV_toV {x y : PV} (hx : flat x = true) (hy : flat y = true) : eqV (toV y) (toV x) = peq y x := by
  cases x <;> first | (cases hx; done) | (cases y <;> first | (cases hy; done) | (simp [toV, eqV, peq]; done) | (simp only [toV, eqV, peq, b2i]; rename_i b _; cases b <;> rfl) | (simp only [toV, eqV, peq, b2i]; rename_i b; cases b <;> rfl))
theorem flat_VR {B : Bk} {ρ : List Addr} {H : Hp} {x : PV} {v : V} (h : flat x = true) (r : VR B ρ H x v) : flatV v = true ∧ ∀ y w, flat y = true → VR B ρ H y w → eqV w v = peq y x := by
  rw [flat_toV h r]
  exact ⟨by cases x <;> first | rfl | (cases h; done), fun y w hy rw => by rw [flat_toV hy rw]; exact eqV_toV h hy⟩
theorem any_flat {B : Bk} {ρ : List Addr} {H : Hp} {x : PV} {v : V} (h : flat x = true) (r : VR B ρ H x v) : ∀ {xs : List PV} {vs : List V}, xs.all flat = true → VRs B ρ H xs vs → vs.all flatV = true ∧ (vs.any fun w => eqV w v) = xs.any fun y => peq y x
  | [], vs, _, rs => by rw [rs.unnil]; exact ⟨rfl, rfl⟩
  | y :: ys, vs, hy, rs => by
    obtain ⟨w, ws, rfl, r1, r2⟩ := rs.uncons
    rw [List.all_cons, Bool.and_eq_true] at hy
    obtain ⟨a, b⟩ := any_flat h r hy.2 r2
    exact ⟨by rw [List.all_cons, a, (flat_VR hy.1 r1).1]; rfl, by rw [List.any_cons, List.any_cons, b, (flat_VR h r).2 y w hy.1 r1]⟩
theorem any_toD {x : PV} (hx : isD 16 x = true) : ∀ {xs : List PV}, xs.all (isD 16) = true → ((toDs xs).any fun z => PyData.eqv z (toD x)) = xs.any fun y => peq y x
  | [], _ => by simp [toDs]
  | y :: ys, hy => by
    rw [List.all_cons, Bool.and_eq_true] at hy
    simp only [toDs, List.any_cons]
    rw [eqv_toD hy.1 hx, any_toD hx hy.2]
theorem shaped_list {xs : List PV} (h : xs.all (isD 16) = true) : SeqAt.shaped (.list (toDs xs)) = true := by
  have : isD 17 (.lst xs) = true := by simpa [isD] using h
  have k := shaped_of this (by omega)
  simpa [toD] using k
def rCmp (B : Bk) (T : List (Addr × Str)) (Φ : Phi) (o : Co) : R2 := fun x y H Q => ∃ ρ S vx vy, isIns vx = false ∧ StR B T ρ H S ∧ VR B ρ H vx x ∧ VR B ρ H vy y ∧ OkV B T ρ H (cmpop Φ o vx vy S) Q
/-- in, not in -/
theorem in_dat {X : Cx} {B : Bk} {T : List (Addr × Str)} (hK : B.K = X.K) (hu : X.A.units + 65 < cLine) {ρ : List Addr} {S : Store} {vx vy : PV} {ys : List PV} {pins : List (Addr × Obj)} {s : Shared} {σ : L2.St} {H : Hp} {x y : V} {v u : Value} {Q : VK} {neg : Bool}
    (I : L2.Inv X pins σ H s) (rx : L2.RelV x v) (ry : L2.RelV y u) (st : StR B T ρ H S) (r1 : VR B ρ H vx x) (r2 : VR B ρ H vy y) (hi : items vy S = some ys) (ok : inOk vx vy ys = true)
    (q : Q (.bl (if neg then !(ys.any fun z => peq z vx) else ys.any fun z => peq z vx)) H) : wpAny (model X.prog X.w) X.A (compareOp (if neg then .NotIn else .In) v u) (EP X pins σ Q) X.xe s := by
  unfold inOk at ok
  rw [Bool.and_eq_true, Bool.and_eq_true] at ok
  obtain ⟨⟨o1, o2⟩, o3⟩ := ok
  have deep : ∀ {a : Addr} {vs : List V}, y = .ref a → SqL X.K H a vs → VRs B ρ H ys vs → wpAny (model X.prog X.w) X.A (compareOp (if neg then .NotIn else .In) v u) (EP X pins σ Q) X.xe s := fun {a vs} ea hs rs => by
    subst ea
    have d1 := dp_of (k := 16) o1 r1
    have d2 : Dp B.K H (.ref a) (.list (toDs ys)) := .lst (by rw [hK]; exact hs) (dps_of (k := 16) (List.all_eq_true.mp o2) rs)
    rw [hK] at d1 d2
    have e := any_toD o1 o2
    cases neg with
    | false => exact op_inD hu pins s σ H x _ v u Q I rx ry ⟨_, _, d1, d2, shaped_of o1 (by omega), shaped_list o2, by rw [e]; exact q⟩
    | true => exact op_notInD hu pins s σ H x _ v u Q I rx ry ⟨_, _, d1, d2, shaped_of o1 (by omega), shaped_list o2, by rw [e]; exact q⟩
  unfold items at hi
  split at hi
  · cases hi
    obtain ⟨a, vs, ea, hq, _, rs⟩ := vr_tup.mp r2
    have o3' : (flat vx && ys.all flat) = true := o3
    rw [Bool.and_eq_true] at o3'
    obtain ⟨f1, f2⟩ := any_flat o3'.1 r1 o3'.2 rs
    cases neg with
    | false => exact op_in_seq pins s σ H x y v u Q I rx ry ⟨a, vs, ea, .inr (.of hq), (flat_VR o3'.1 r1).1, f1, by show Q (.bl (inV x vs)) H; unfold inV; rw [f2]; exact q⟩
    | true => exact op_notIn_seq pins s σ H x y v u Q I rx ry ⟨a, vs, ea, .inr (.of hq), (flat_VR o3'.1 r1).1, f1, by show Q (.bl (!inV x vs)) H; unfold inV; rw [f2]; exact q⟩
  · cases hi
    obtain ⟨a, vs, ea, hq, _, rs⟩ := vr_lst.mp r2
    exact deep ea (.of hq) rs
  · cases o3
  · split at hi
    · rename_i e
      cases hi
      obtain ⟨a, ea, ha⟩ := vr_loc.mp r2
      obtain ⟨vs, hq, rs⟩ := st.cl _ a _ ha e
      exact deep ea (.of hq) rs
    · cases hi
  · cases hi
theorem lens_go {X : Cx} {B : Bk} {T : List (Addr × Str)} {pins : List (Addr × Obj)} {s : Shared} {σ : L2.St} {H : Hp} {x y : V} {v u : Value} {ρ : List Addr} {S : Store} {vx vy : PV} {xs ys : List PV} {G : Value → Value → Prop} (I : Inv X pins σ H s) (rx : RelV x v) (ry : RelV y u) (st : StR B T ρ H S) (r1 : VR B ρ H vx x) (r2 : VR B ρ H vy y)
    (e1 : deref vx S = .lst xs) (e2 : deref vy S = .lst ys) (hne : ¬ xs.length = ys.length) (k : ∀ {l b : Addr} {items items2 : Array Value}, s.heap.IsList l items → s.heap.IsList b items2 → (items.size != items2.size) = true → G (.ref l) (.ref b)) : G v u := by
  obtain ⟨a, vs, rfl, q1, k1⟩ := deref_lst st r1 e1
  obtain ⟨b, ws, rfl, q2, k2⟩ := deref_lst st r2 e2
  cases rx
  cases ry
  obtain ⟨its, rv, p, _⟩ := I.list (.of q1)
  obtain ⟨its2, rw2, p2, _⟩ := I.list (.of q2)
  refine k p.isList p2.isList ?_
  have z1 := rv.length
  have z2 := rw2.length
  rw [← k1.length] at z1
  rw [← k2.length] at z2
  simp
  omega
theorem cmp_ok {X : Cx} {B : Bk} {T : List (Addr × Str)} {Φ : Phi} (hK : B.K = X.K) (hu : X.A.units + 65 < cLine) {o : Co} : OpR X (compareOp (coOp o)) (rCmp B T Φ o) := by
  intro pins s σ H x y v u Q I rx ry h
  obtain ⟨ρ, S, vx, vy, hn, st, r1, r2, ok⟩ := h
  unfold cmpop at ok
  split at ok
  · rw [eqv_data hn] at ok
    split at ok
    · rename_i hd
      have d1 := dp_deref st r1 hd.1
      have d2 := dp_deref st r2 hd.2
      rw [hK] at d1 d2
      exact op_eqD (by omega) pins s σ H x y v u Q I rx ry ⟨_, _, d1, d2, shaped_of hd.1 (by omega), shaped_of hd.2 (by omega), by rw [eqv_toD hd.1 hd.2]; exact ok.bl st⟩
    · split at ok
      · rename_i xs ys e1 e2
        split at ok
        · exact ok.elim
        · rename_i hne
          refine lens_go (G := fun a b => wpAny (model X.prog X.w) X.A (compareOp .Eq a b) _ _ s) I rx ry st r1 r2 e1 e2 hne fun l1 l2 l3 => ?_
          have hq := PySem.SeqAt.RcAt.lists_lengths (A := X.A) l1 l2 l3 (by omega)
          exact hq _ _ _ _ ⟨.bl _, H, I, rfl, ok.bl st⟩
      · exact ok.elim
  · rw [eqv_data hn] at ok
    split at ok
    · rename_i hd
      have d1 := dp_deref st r1 hd.1
      have d2 := dp_deref st r2 hd.2
      rw [hK] at d1 d2
      exact op_neD (by omega) pins s σ H x y v u Q I rx ry ⟨_, _, d1, d2, shaped_of hd.1 (by omega), shaped_of hd.2 (by omega), by rw [eqv_toD hd.1 hd.2]; exact ok.bl st⟩
    · split at ok
      · rename_i xs ys e1 e2
        split at ok
        · exact ok.elim
        · rename_i hne
          refine lens_go (G := fun a b => wpAny (model X.prog X.w) X.A (compareOp .NotEq a b) _ _ s) I rx ry st r1 r2 e1 e2 hne fun l1 l2 l3 => ?_
          have hq := PySem.SeqAt.RcNeAt.lists_lengths (A := X.A) l1 l2 l3 (by omega)
          exact hq _ _ _ _ ⟨.bl _, H, I, rfl, ok.bl st⟩
      · exact ok.elim
  · split at ok
    · rename_i ys hi
      split at ok
      · rename_i hin
        exact in_dat (neg := false) hK hu I rx ry st r1 r2 hi hin (ok.bl st)
      · exact ok.elim
    · exact ok.elim
  · split at ok
    · rename_i ys hi
      split at ok
      · rename_i hin
        exact in_dat (neg := true) hK hu I rx ry st r1 r2 hi hin (ok.bl st)
      · exact ok.elim
    · exact ok.elim
  · rename_i h1 h2 h3 h4
    split at ok
    · replace r1 := vr_int.mp r1
      replace r2 := vr_int.mp r2
      have q := ok.bl st
      cases o with
      | lt => exact op_lt pins s σ H x y v u Q I rx ry ⟨_, _, r1, r2, q⟩
      | le => exact op_le pins s σ H x y v u Q I rx ry ⟨_, _, r1, r2, q⟩
      | gt => exact op_gt pins s σ H x y v u Q I rx ry ⟨_, _, r1, r2, q⟩
      | ge => exact op_ge pins s σ H x y v u Q I rx ry ⟨_, _, r1, r2, q⟩
      | eq => exact absurd rfl h1
      | ne => exact absurd rfl h2
      | isIn => exact absurd rfl h3
      | notIn => exact absurd rfl h4
    · exact ok.elim
end Sv
end

section
set_option Elab.async false
set_option linter.all false
set_option maxRecDepth 100000
set_option maxHeartbeats 1000000
/-! subscripts, built-ins, methods, by values -/
namespace Sv
open PySem PySem.Spec PyProof.Rows L2
section
variable {B : Bk} {T : List (Addr × Str)} {ρ : List Addr} {H : Hp} {S : Store} {Q : VK}
theorem atI_eq {α : Type} (xs : List α) (i : Int) : L2.atI xs i = atI xs i := by
  unfold L2.atI atI L2.ixN ixN
  split
  · split <;> rfl
  · split <;> rfl
theorem ixN_eq (n : Nat) (i : Int) : L2.ixN n i = ixN n i := rfl
theorem VRs.atI {xs : List PV} {vs : List V} {i : Int} {v : PV} (r : VRs B ρ H xs vs) (h : atI xs i = some v) : ∃ w, L2.atI vs i = some w ∧ VR B ρ H v w := by
  rw [atI_eq]
  unfold Sv.atI at h ⊢
  rw [← r.length]
  cases e : ixN xs.length i with
  | none => rw [e] at h; cases h
  | some j =>
    rw [e] at h
    exact r.get h
/-! ### dicts -/
theorem ofString_inj {a b : String} (h : Str.ofString a = Str.ofString b) : a = b := by
  rw [Str.ofString_eq_toList, Str.ofString_eq_toList] at h
  have h1 : (a.toList.map Char.toNat).toArray = (b.toList.map Char.toNat).toArray := congrArg Str.cps h
  have h2 : a.toList.map Char.toNat = b.toList.map Char.toNat := by simpa using congrArg Array.toList h1
  have key : ∀ l m : List Char, l.map Char.toNat = m.map Char.toNat → l = m := fun l => by
    induction l with
    | nil => intro m h; cases m with
      | nil => rfl
      | cons c m => simp at h
    | cons c l ih => intro m h; cases m with
      | nil => simp at h
      | cons d m =>
        simp only [List.map_cons, List.cons.injEq] at h
        have : c = d := by
          apply Char.ext
          exact UInt32.toNat_inj.mp h.1
        rw [this, ih m h.2]
  exact String.toList_inj.mp (key _ _ h2)
theorem kD_inj {a b : DK} : kD a = kD b ↔ a = b := by
  constructor
  · intro h
    cases a with
    | i k => cases b with
      | i j => exact congrArg DK.i (Sum.inl.inj h)
      | s y => cases h
    | s x => cases b with
      | i j => cases h
      | s y => exact congrArg DK.s (ofString_inj (Sum.inr.inj h))
  · rintro rfl; rfl
theorem VRs.dkget {k : DK} : ∀ {kvs : List (DK × PV)} {ps : List (Key × V)}, ps.map (·.1) = kvs.map (fun p => kD p.1) → VRs B ρ H (kvs.map (·.2)) (ps.map (·.2)) → ∀ {v : PV}, dkget k kvs = some v → ∃ w, valV ps (kD k) = some w ∧ VR B ρ H v w
  | [], _, _, _, v, h => by cases h
  | (j, u) :: kvs, [], e, _, v, h => by simp at e
  | (j, u) :: kvs, (kk, w) :: ps, e, r, v, h => by
    simp only [List.map_cons, List.cons.injEq] at e
    obtain ⟨e1, e2⟩ := e
    obtain ⟨w', ws, e3, r1, r2⟩ := VRs.uncons r
    simp only [List.map_cons, List.cons.injEq] at e3
    obtain ⟨rfl, rfl⟩ := e3
    unfold Sv.dkget at h
    by_cases hk : k = j
    · subst hk
      rw [if_pos rfl] at h
      cases h
      exact ⟨w, valV_pos e1, r1⟩
    · rw [if_neg hk] at h
      have hne : ¬ (kk, w).1 = kD k := fun z => hk (kD_inj.mp (by rw [← z]; exact e1))
      rw [valV_neg hne]
      exact VRs.dkget e2 r2 h
theorem VRs.dkput {k : DK} {v : PV} {w : V} {kvs : List (DK × PV)} {ps : List (Key × V)} (hv : VR B ρ H v w) (e : ps.map (·.1) = kvs.map (fun p => kD p.1)) (r : VRs B ρ H (kvs.map (·.2)) (ps.map (·.2))) :
    (putK ps (kD k) w).map (·.1) = (dkput k v kvs).map (fun p => kD p.1) ∧ VRs B ρ H ((dkput k v kvs).map (·.2)) ((putK ps (kD k) w).map (·.2)) := by
  have any : ∀ {kvs : List (DK × PV)} {ps : List (Key × V)}, ps.map (·.1) = kvs.map (fun p => kD p.1) → (ps.any fun kv => decide (kv.1 = kD k)) = kvs.any fun p => decide (p.1 = k) := fun {kvs} => by
    induction kvs with
    | nil => intro ps e; cases ps with
      | nil => rfl
      | cons a b => simp at e
    | cons a l ih => intro ps e; cases ps with
      | nil => simp at e
      | cons p ps =>
        simp only [List.map_cons, List.cons.injEq] at e
        rw [List.any_cons, List.any_cons, ih e.2, e.1]
        congr 1
        exact decide_eq_decide.mpr kD_inj
  unfold putK Sv.dkput
  rw [any e]
  split
  · rename_i hh
    clear any hh
    induction kvs generalizing ps with
    | nil => cases ps with
      | nil => exact ⟨rfl, .nil⟩
      | cons a b => simp at e
    | cons a l ih => cases ps with
      | nil => simp at e
      | cons p ps =>
        simp only [List.map_cons, List.cons.injEq] at e
        obtain ⟨w', ws, e3, r1, r2⟩ := VRs.uncons (x := a.2) (xs := l.map (·.2)) r
        simp only [List.map_cons, List.cons.injEq] at e3
        obtain ⟨rfl, rfl⟩ := e3
        have hx : (p.1 = kD k) ↔ a.1 = k := by rw [e.1]; exact kD_inj
        obtain ⟨i1, i2⟩ := ih e.2 r2
        rw [List.map_cons (f := fun kv : Key × V => if kv.1 = kD k then (kv.1, w) else kv), List.map_cons (f := fun q : DK × PV => if q.1 = k then (q.1, v) else q)]
        by_cases ha : a.1 = k
        · rw [if_pos ha, if_pos (hx.mpr ha)]
          exact ⟨by rw [List.map_cons, List.map_cons, i1]; exact congrArg (· :: _) e.1, .cons hv i2⟩
        · rw [if_neg ha, if_neg (fun z => ha (hx.mp z))]
          exact ⟨by rw [List.map_cons, List.map_cons, i1]; exact congrArg (· :: _) e.1, .cons r1 i2⟩
  · refine ⟨by simp [e], ?_⟩
    rw [List.map_append, List.map_append]
    exact r.append (.cons hv .nil)
end
section
variable {X : Cx} {B : Bk} {T : List (Addr × Str)}
/-! ### subscripts -/
theorem ix_dict (hu : X.A.units + 1 < cLine) : IxR X (fun x y H Q => ∃ a v, x = .ref a ∧ DGet H a y (some v) ∧ Q v H) := by
  intro value slice pins s σ H x y v u Q I rx ry h hs
  obtain ⟨a, z, rfl, g, q⟩ := h
  cases rx
  have hT := dict_typeIs I g
  have h₂ : wpAny (model X.prog X.w) X.A (getItem (.ref a) u) (EP X pins σ Q) X.xe s := d_getItem hu I g ry fun w' s' I' rw' => ⟨z, H, I', rw', q⟩
  unfold subscriptTail
  refine wpAny_bind ?_
  rw [getitemInPython_of_ne hT.not_modules]
  refine wpAny_bind (wpAny_specialOf hT PySem.F.slot_dict_getitem.lookup ?_)
  have fin : wpAny (model X.prog X.w) X.A (subscripted slice false (.ref a) u) (fun r s₃ => wpAny (model X.prog X.w) X.A (letTemporaryGo value (.ref a) r >>= fun _ => pure r) (EP X pins σ Q) X.xe s₃) X.xe s := by
    rw [hs]
    exact wpAny_operating (wpAny_mono h₂ (fun r s₃ h₃ => wpAny_bind (wpAny_letTemporaryGo (wpAny_pure h₃))) fun _ _ x => x)
  first
    | exact wpAny_pure (wpAny_bind fin)
    | exact wpAny_bind (wpAny_pure (wpAny_bind fin))
    | exact wpAny_bind fin
def rIdx (B : Bk) (T : List (Addr × Str)) : R2 := fun x y H Q => ∃ ρ S vx vy, StR B T ρ H S ∧ VR B ρ H vx x ∧ VR B ρ H vy y ∧ OkV B T ρ H (index vx vy S) Q
theorem idx_ok (hK : B.K = X.K) (hu : X.A.units + 1 < cLine) : IxR X (rIdx B T) := by
  intro value slice pins s σ H x y v u Q I rx ry h hs
  obtain ⟨ρ, S, vx, vy, st, r1, r2, ok⟩ := h
  unfold index at ok
  split at ok
  · rename_i k
    have e2 := vr_int.mp r2
    split at ok
    · rename_i xs hi
      obtain ⟨a, vs, ea, hq, rs⟩ := items_seq st r1 hi
      split at ok
      · rename_i w hw
        obtain ⟨z, hz, rz⟩ := rs.atI hw
        have q := OkV.same st rz ok
        rw [hK] at hq
        rcases hq with hq | hq
        · exact ix_list value slice pins s σ H x y v u Q I rx ry ⟨a, vs, k, z, ea, e2, hq, hz, q⟩ hs
        · exact ix_tup value slice pins s σ H x y v u Q I rx ry ⟨a, vs, k, z, ea, e2, hq, hz, q⟩ hs
      · exact ok.elim
    · split at ok
      · obtain ⟨a, ea, ha⟩ := vr_loc.mp r1
        split at ok
        · rename_i kvs hkv
          obtain ⟨ps, hp, ek, rk⟩ := st.cl _ a _ ha hkv
          split at ok
          · rename_i w hw
            obtain ⟨z, hz, rz⟩ := VRs.dkget ek rk hw
            have g : DGet H a y (some z) := by
              have := DGet.k (k := Sum.inl k) hp
              rw [show valV ps (Sum.inl k) = some z from hz] at this
              rw [e2]
              exact this
            exact ix_dict hu value slice pins s σ H x y v u Q I rx ry ⟨a, z, ea, g, OkV.same st rz ok⟩ hs
          · exact ok.elim
        · exact ok.elim
      · exact ok.elim
  · exact ok.elim
/-- a dict's value by a written text -/
def rDgs (B : Bk) (T : List (Addr × Str)) (k : String) : R2 := fun x y H Q => ∃ ρ S l kvs w, StR B T ρ H S ∧ VR B ρ H (.loc l) x ∧ y = .str (Str.ofString k) ∧ S[l]? = some (.dct kvs) ∧ dkget (.s k) kvs = some w ∧ OkV B T ρ H (.ok w S) Q
theorem dgs_ok (hu : X.A.units + 1 < cLine) {k : String} : IxR X (rDgs B T k) := by
  intro value slice pins s σ H x y v u Q I rx ry h hs
  obtain ⟨ρ, S, l, kvs, w, st, r1, ey, hkv, hw, ok⟩ := h
  obtain ⟨a, ea, ha⟩ := vr_loc.mp r1
  obtain ⟨ps, hp, ek, rk⟩ := st.cl l a _ ha hkv
  obtain ⟨z, hz, rz⟩ := VRs.dkget ek rk hw
  have g : DGet H a y (some z) := by
    have := DGet.k (k := Sum.inr (Str.ofString k)) hp
    rw [show valV ps (Sum.inr (Str.ofString k)) = some z from hz] at this
    rw [ey]
    exact this
  exact ix_dict hu value slice pins s σ H x y v u Q I rx ry ⟨a, z, ea, g, OkV.same st rz ok⟩ hs
/-- what follows a changed store -/
def OkS (B : Bk) (T : List (Addr × Str)) (ρ : List Addr) (H : Hp) (S' : Store) (Q : Hp → Prop) : Prop := ∀ ρ' H', Go ρ ρ' H H' → StR B T ρ' H' S' → Q H'
/-- o[i] = v -/
def rSet (B : Bk) (T : List (Addr × Str)) : TSet := fun o i v H Q => ∃ ρ S vo vi vv S', StR B T ρ H S ∧ VR B ρ H vo o ∧ VR B ρ H vi i ∧ VR B ρ H vv v ∧ setIx vo vi vv S = some S' ∧ OkS B T ρ H S' Q
theorem set_ok (hu : X.A.units + 1 < cLine) : PSet X (rSet B T) := by
  intro pins s σ H o i v ov iv u Q I ro ri rv h
  obtain ⟨ρ, S, vo, vi, vv, S', st, r1, r2, r3, e, ok⟩ := h
  unfold setIx at e
  split at e
  · rename_i l k
    obtain ⟨a, ea, ha⟩ := vr_loc.mp r1
    have ei := vr_int.mp r2
    split at e
    · rename_i xs hl
      obtain ⟨vs, hq, rs⟩ := st.cl l a _ ha hl
      split at e
      · rename_i j hj
        cases e
        have hj' : L2.ixN vs.length k = some j := by rw [ixN_eq, ← rs.length]; exact hj
        refine set_list pins s σ H o i v ov iv u Q I ro ri rv ⟨a, vs, k, j, ea, ei, hq, hj', ?_⟩
        obtain ⟨st', g⟩ := st.write (c := .lst (xs.set j vv)) (o := .lst (vs.set j v)) ha fun g => ⟨_, upd_same, (rs.mono g).set (r3.mono g) j⟩
        exact ok _ _ g st'
      · cases e
    · rename_i kvs hl
      obtain ⟨ps, hp, ek, rk⟩ := st.cl l a _ ha hl
      split at e
      · rename_i hlen
        cases e
        have hps : ps.length = kvs.length := by simpa using congrArg List.length ek
        obtain ⟨k1, _⟩ := VRs.dkput (k := .i k) r3 ek rk
        obtain ⟨st', g⟩ := st.write (c := .dct (dkput (.i k) vv kvs)) (o := .dK (putK ps (Sum.inl k) v)) ha fun g => ⟨_, upd_same, k1, (VRs.dkput (k := .i k) (r3.mono g) ek (rk.mono g)).2⟩
        subst ea
        cases ro
        refine d_setItem hu I (H' := upd H a (.dK (putK ps (Sum.inl k) v))) (by rw [ei]; exact DPut.k (k := Sum.inl k) hp (by rw [sizeLine_eq]; omega)) ri rv fun s' I' => ⟨_, I', ok _ _ g st'⟩
      · cases e
    · cases e
  · cases e
/-- d["k"] = v -/
def rSetK (B : Bk) (T : List (Addr × Str)) (k : String) : TSet := fun o i v H Q => ∃ ρ S vo vv S', StR B T ρ H S ∧ VR B ρ H vo o ∧ i = .str (Str.ofString k) ∧ VR B ρ H vv v ∧ setDk vo k vv S = some S' ∧ OkS B T ρ H S' Q
theorem setK_ok (hu : X.A.units + 1 < cLine) {k : String} : PSet X (rSetK B T k) := by
  intro pins s σ H o i v ov iv u Q I ro ri rv h
  obtain ⟨ρ, S, vo, vv, S', st, r1, ei, r3, e, ok⟩ := h
  unfold setDk at e
  split at e
  · rename_i l
    obtain ⟨a, ea, ha⟩ := vr_loc.mp r1
    split at e
    · rename_i kvs hl
      obtain ⟨ps, hp, ek, rk⟩ := st.cl l a _ ha hl
      split at e
      · rename_i hlen
        cases e
        have hps : ps.length = kvs.length := by simpa using congrArg List.length ek
        obtain ⟨k1, _⟩ := VRs.dkput (k := .s k) r3 ek rk
        obtain ⟨st', g⟩ := st.write (c := .dct (dkput (.s k) vv kvs)) (o := .dK (putK ps (Sum.inr (Str.ofString k)) v)) ha fun g => ⟨_, upd_same, k1, (VRs.dkput (k := .s k) (r3.mono g) ek (rk.mono g)).2⟩
        subst ea
        cases ro
        refine d_setItem hu I (H' := upd H a (.dK (putK ps (Sum.inr (Str.ofString k)) v))) (by rw [ei]; exact DPut.k (k := Sum.inr (Str.ofString k)) hp (by rw [sizeLine_eq]; omega)) ri rv fun s' I' => ⟨_, I', ok _ _ g st'⟩
      · cases e
    · cases e
  · cases e
/-- o[i], for o[i] += e -/
def rGet (B : Bk) (T : List (Addr × Str)) : V → V → Hp → VK → Prop := fun x y H Q => ∃ ρ S l k xs, StR B T ρ H S ∧ VR B ρ H (.loc l) x ∧ y = .int k ∧ S[l]? = some (.lst xs) ∧ ∃ w, Sv.atI xs k = some w ∧ OkV B T ρ H (.ok w S) Q
theorem get_ok : PGet X (rGet B T) := by
  intro pins s σ H o i ov iv Q I ro ri h
  obtain ⟨ρ, S, l, k, xs, st, r1, ei, hl, w, hw, ok⟩ := h
  obtain ⟨a, ea, ha⟩ := vr_loc.mp r1
  obtain ⟨vs, hq, rs⟩ := st.cl l a _ ha hl
  obtain ⟨z, hz, rz⟩ := rs.atI hw
  subst ea; subst ei
  cases ro
  obtain ⟨t, rfl⟩ := ri
  obtain ⟨its, r, pl, hsz⟩ := I.list (.of hq)
  obtain ⟨j, h1, h2, h3, h4, h5⟩ := atI_get hz
  obtain ⟨w', ew, rw'⟩ := r.get h2
  have hl := r.length
  have hn := line63
  have fin : EP X pins σ Q w' s := ⟨z, H, I, rw', OkV.same st rz ok⟩
  by_cases h0 : 0 ≤ k
  · have hj : k.toNat = j := by
      rw [seqIndex_of h0 h5] at h1
      exact Option.some.inj h1
    exact wpAny_getItem_list pl.isList h0 (by omega) (by rw [hj]; simpa using ew) fin
  · have hj : (k + (its.toArray.size : Int)).toNat = j := by
      rw [seqIndex_neg (by omega) h4] at h1
      rw [List.size_toArray, ← hl]
      exact Option.some.inj h1
    exact wpAny_getItem_list_neg pl.isList (by omega) (by rw [List.size_toArray] <;> omega) (by omega) (by rw [hj]; simpa using ew) fin
/-! ### slices -/
theorem sIx_eq (n d : Nat) (o : Option Int) : HT.sIx n d o = sIx n d o := by
  cases o with
  | none => exact HT.sIx_none n d
  | some v =>
    have h := HT.clip_eq v n d
    unfold sIx
    dsimp only
    split
    · rename_i hv
      rw [if_pos hv] at h
      have : (HT.sIx n d (some v) : Int) = max (v + (n : Int)) 0 := h.symm
      omega
    · rename_i hv
      rw [if_neg hv] at h
      have : (HT.sIx n d (some v) : Int) = min v (n : Int) := h.symm
      omega
theorem cutV_eq (vs : List V) (lo hi : Option Int) : cutV vs lo hi = cut vs lo hi := by
  unfold cutV cut
  rw [sIx_eq, sIx_eq]
theorem VRs.cut {ρ : List Addr} {H : Hp} {xs : List PV} {vs : List V} (r : VRs B ρ H xs vs) (lo hi : Option Int) : VRs B ρ H (cut xs lo hi) (cut vs lo hi) := by
  unfold Sv.cut
  rw [r.length]
  exact (r.drop _).take _
theorem cut_whole {α : Type} (xs : List α) {lo hi : Option Int} (h1 : sIx xs.length 0 lo = 0) (h2 : sIx xs.length xs.length hi = xs.length) : cut xs lo hi = xs := by
  unfold cut
  rw [h1, h2]
  simp
def rSlc (B : Bk) (T : List (Addr × Str)) (m : Bool) : V → Option Int → Option Int → Hp → VK → Prop := fun x lo hi H Q => ∃ ρ S vx, StR B T ρ H S ∧ VR B ρ H vx x ∧ OkV B T ρ H (slcV m vx lo hi S) Q
theorem slc_ok (hK : B.K = X.K) {m : Bool} : SlR X (rSlc B T m) := by
  intro pins s σ H x v vl vu lo hi sl Q I rx hs pl pu h
  obtain ⟨ρ, S, vx, st, r1, ok⟩ := h
  unfold slcV at ok
  split at ok
  · rename_i xs
    obtain ⟨a, vs, ea, hq, _, rs⟩ := vr_tup.mp r1
    refine sl_tupA pins s σ H x v vl vu lo hi sl Q I rx hs pl pu ⟨a, vs, ea, .of hq, fun hw => ?_, fun _ p hp => ?_⟩
    · rw [← ea]
      rw [sIx_eq, sIx_eq, ← rs.length] at hw
      rw [cut_whole xs hw.1 hw.2] at ok
      exact OkV.same st r1 ok
    · rw [cutV_eq]
      exact ok.tup st (rs.cut lo hi) hp
  · split at ok
    · rename_i xs hd
      obtain ⟨a, vs, ea, hq, rs⟩ := deref_lst st r1 hd
      refine sl_list pins s σ H x v vl vu lo hi sl Q I rx hs pl pu ⟨a, vs, ea, .of hq, fun p hp => ?_⟩
      rw [cutV_eq]
      exact ok.mkL st (rs.cut lo hi) hp
    · exact ok.elim
/-! ### built-ins -/
theorem ints_inv : ∀ {xs : List PV} {l : List Int}, intsOf xs = some l → xs = l.map .int
  | [], l, h => by cases h; rfl
  | x :: xs, l, h => by
    unfold intsOf at h
    split at h
    · rename_i e; cases e
    · rename_i i r e
      cases e
      split at h
      · rename_i l' hl
        cases h
        rw [ints_inv hl]; rfl
      · cases h
    · cases h
theorem bls_inv : ∀ {xs : List PV} {l : List Bool}, bls xs = some l → xs = l.map .bl
  | [], l, h => by cases h; rfl
  | x :: xs, l, h => by
    unfold bls at h
    split at h
    · rename_i e; cases e
    · rename_i i r e
      cases e
      split at h
      · rename_i l' hl
        cases h
        rw [bls_inv hl]; rfl
      · cases h
    · cases h
theorem insI_perm (i : Int) : ∀ l : List Int, (insI i l).Perm (i :: l)
  | [] => .refl _
  | j :: l => by
    unfold insI
    split
    · exact .refl _
    · exact ((insI_perm i l).cons j).trans (.swap i j l)
theorem sortI_perm : ∀ l : List Int, (sortI l).Perm l
  | [] => .refl _
  | i :: l => (insI_perm i (sortI l)).trans ((sortI_perm l).cons i)
theorem insI_sorted (i : Int) : ∀ {l : List Int}, l.Pairwise (· ≤ ·) → (insI i l).Pairwise (· ≤ ·)
  | [], _ => by simp [insI]
  | j :: l, h => by
    unfold insI
    split
    · rename_i hij
      rw [List.pairwise_cons] at h ⊢
      refine ⟨fun x hx => ?_, List.pairwise_cons.mpr h⟩
      rcases List.mem_cons.mp hx with rfl | hx
      · exact hij
      · have := h.1 x hx; omega
    · rename_i hij
      rw [List.pairwise_cons] at h ⊢
      refine ⟨fun x hx => ?_, insI_sorted i h.2⟩
      rcases List.mem_cons.mp ((insI_perm i l).mem_iff.mp hx) with rfl | hx
      · omega
      · exact h.1 x hx
theorem sortI_sorted : ∀ l : List Int, (sortI l).Pairwise (· ≤ ·)
  | [] => .nil
  | i :: l => insI_sorted i (sortI_sorted l)
def biN : Bi → Value
  | .len => .builtin "len"
  | .abs => .builtin "abs"
  | .int => .type "int"
  | .all => .builtin "all"
  | .any => .builtin "any"
  | .sum => .builtin "sum"
  | .tuple => .type "tuple"
theorem cr_sumT (hc : X.calm = true) : CallR X (.builtin "sum") (fun vs H Q => ∃ (a : Addr) (ns : List Int), vs = [V.ref a] ∧ SqT X.K H a (ns.map V.int) ∧ Q (.int ns.sum) H) := by
  intro pins s σ H vs us Q I r h
  obtain ⟨a, ns, rfl, hs, q⟩ := h
  obtain ⟨its, rv, ht, _⟩ := I.tuple hs
  rw [Vals.ref1 r]
  have hi := rv.ints
  obtain ⟨xs, hx⟩ := hi.allInts.items
  have hn : numsOf its.toArray.toList = ns := by rw [show its.toArray.toList = its from rfl, hi.numsOf]
  rw [hx] at ht hn
  rw [nums_intItems] at hn
  refine PySem.W.ktm_sumG (I.ok.hd hc) ht fun h' tk t' hk => ?_
  rw [preSum_eq, List.take_of_length_le (by simp), hn]
  exact ⟨.int _, H, I.kept hk, ⟨_, rfl⟩, q⟩
def rBi (B : Bk) (T : List (Addr × Str)) (b : Bi) : List V → Hp → VK → Prop := fun xs H Q => ∃ ρ S vx x, xs = [x] ∧ StR B T ρ H S ∧ VR B ρ H vx x ∧ OkV B T ρ H (bi1 b vx S) Q
theorem bi_ok (hK : B.K = X.K) (hc : X.calm = true) {b : Bi} : CallR X (biN b) (rBi B T b) := by
  intro pins s σ H xs us Q I r h
  obtain ⟨ρ, S, vx, x, rfl, st, r1, ok⟩ := h
  unfold bi1 at ok
  split at ok
  · split at ok
    · rename_i ys hi
      obtain ⟨a, vs, ea, hq, rs⟩ := items_seq st r1 hi
      rw [hK] at hq
      exact call_len_seq pins s σ H _ us Q I r ⟨a, vs, by rw [ea], hq, by rw [← rs.length]; exact ok.int st⟩
    · exact ok.elim
  · split at ok
    · exact call_abs pins s σ H _ us Q I r ⟨_, by rw [vr_int.mp r1], ok.int st⟩
    · exact ok.elim
  · split at ok
    · exact call_int1 pins s σ H _ us Q I r (.inl ⟨_, by rw [vr_int.mp r1], ok.int st⟩)
    · rename_i k
      exact call_int1 pins s σ H _ us Q I r (.inr ⟨k, by rw [vr_bl.mp r1], by cases k <;> exact ok.int st⟩)
    · exact ok.elim
  · split at ok
    · rename_i ys hd
      split at ok
      · rename_i l hl
        obtain ⟨a, vs, ea, hq, rs⟩ := deref_lst st r1 hd
        rw [bls_inv hl] at rs
        rw [rs.bls] at hq
        exact cr_all hc pins s σ H _ us Q I r ⟨a, l, by rw [ea], .of hq, ok.bl st⟩
      · exact ok.elim
    · exact ok.elim
  · split at ok
    · rename_i ys hd
      split at ok
      · rename_i l hl
        obtain ⟨a, vs, ea, hq, rs⟩ := deref_lst st r1 hd
        rw [bls_inv hl] at rs
        rw [rs.bls] at hq
        exact cr_any hc pins s σ H _ us Q I r ⟨a, l, by rw [ea], .of hq, ok.bl st⟩
      · exact ok.elim
    · exact ok.elim
  · split at ok
    · rename_i ys hi
      split at ok
      · rename_i l hl
        obtain ⟨a, vs, ea, hq, rs⟩ := items_seq st r1 hi
        rw [ints_inv hl] at rs
        rw [rs.ints, hK] at hq
        rcases hq with hq | hq
        · exact cr_sum hc pins s σ H _ us Q I r ⟨a, l, by rw [ea], hq, ok.int st⟩
        · exact cr_sumT hc pins s σ H _ us Q I r ⟨a, l, by rw [ea], hq, ok.int st⟩
      · exact ok.elim
    · exact ok.elim
  · split at ok
    · rename_i ys hi
      obtain ⟨a, vs, ea, hq, rs⟩ := items_seq2 st r1 hi
      rw [hK] at hq
      rcases hq with ⟨hv, hq⟩ | hq
      · subst hv
        exact call_tuple_of pins s σ H _ us Q I r ⟨a, vs, by rw [ea], .inr ⟨hq, by rw [← ea]; exact OkV.same st r1 ok⟩⟩
      · exact call_tuple_of pins s σ H _ us Q I r ⟨a, vs, by rw [ea], .inl ⟨hq, fun p hp => ok.tup st rs hp⟩⟩
    · exact ok.elim
end
end Sv
end

section
set_option Elab.async false
set_option linter.all false
set_option maxRecDepth 100000
set_option maxHeartbeats 1000000
/-! lists made, methods, truth, isinstance, attributes, by values -/
namespace Sv
open PySem PySem.Spec PyProof.Rows L2
section
variable {X : Cx} {B : Bk} {T : List (Addr × Str)}
def blN : Bl → Value
  | .list => .type "list"
  | .sorted => .builtin "sorted"
def rBl (B : Bk) (T : List (Addr × Str)) (b : Bl) (m : Bool) : List V → Hp → VK → Prop := fun xs H Q => ∃ ρ S vx x, xs = [x] ∧ StR B T ρ H S ∧ VR B ρ H vx x ∧ OkV B T ρ H (bl1 b m vx S) Q
theorem sorted_eq {a b : List Int} (p : a.Perm b) (ha : a.Pairwise (· ≤ ·)) : a = sortI b :=
  (p.trans (sortI_perm b).symm).eq_of_pairwise (fun x y _ _ h1 h2 => by omega) ha (sortI_sorted b)
theorem bl_ok (hK : B.K = X.K) {b : Bl} {m : Bool} : CallR X (blN b) (rBl B T b m) := by
  intro pins s σ H xs us Q I r h
  obtain ⟨ρ, S, vx, x, rfl, st, r1, ok⟩ := h
  unfold bl1 at ok
  split at ok
  · split at ok
    · rename_i ys hi
      obtain ⟨a, vs, ea, hq, rs⟩ := items_seq st r1 hi
      rw [hK] at hq
      exact call_list_of pins s σ H _ us Q I r ⟨a, vs, by rw [ea], hq, fun l hl => ok.mkL st rs hl⟩
    · exact ok.elim
  · split at ok
    · rename_i ys hd
      split at ok
      · rename_i l hl
        split at ok
        · obtain ⟨a, vs, ea, hq, rs⟩ := deref_lst st r1 hd
          rw [ints_inv hl] at rs
          rw [rs.ints] at hq
          exact cr_sortedI pins s σ H _ us Q I r ⟨a, l, by rw [ea], .of hq, fun ns' p hp hs hn => by
            rw [sorted_eq hp hs]
            exact ok.mkL st (VRs.of_ints _) hn⟩
        · exact ok.elim
      · exact ok.elim
    · exact ok.elim
def rMm (B : Bk) (T : List (Addr × Str)) (mx : Bool) : List V → Hp → VK → Prop := fun xs H Q => ∃ ρ S vx vy x y, xs = [x, y] ∧ StR B T ρ H S ∧ VR B ρ H vx x ∧ VR B ρ H vy y ∧ OkV B T ρ H (mmV mx vx vy S) Q
def mmN : Bool → Value
  | true => .builtin "max"
  | false => .builtin "min"
theorem mm_ok (hc : X.calm = true) {mx : Bool} : CallR X (mmN mx) (rMm B T mx) := by
  intro pins s σ H xs us Q I r h
  obtain ⟨ρ, S, vx, vy, x, y, rfl, st, r1, r2, ok⟩ := h
  unfold mmV at ok
  split at ok
  · rename_i i j
    cases mx with
    | true => exact call_max2 hc pins s σ H _ us Q I r ⟨i, j, by rw [vr_int.mp r1, vr_int.mp r2], ok.int st⟩
    | false => exact call_min2 hc pins s σ H _ us Q I r ⟨i, j, by rw [vr_int.mp r1, vr_int.mp r2], ok.int st⟩
  · exact ok.elim
/-! ### methods of lists -/
theorem erase_last {α : Type} : ∀ (xs : List α), xs.eraseIdx (xs.length - 1) = xs.dropLast := fun xs => PyProof.Rows.Copied.eraseIdx_last xs
def rPopV (B : Bk) (T : List (Addr × Str)) : V → List V → Hp → VK → Prop := fun x xs H Q => ∃ ρ S vx, xs = [] ∧ StR B T ρ H S ∧ VR B ρ H vx x ∧ OkV B T ρ H (popAt vx none S) Q
theorem pop_ok : MtM X "list.pop" (rPopV B T) := by
  intro pins s σ H x xs v us Q I rx rxs h
  obtain ⟨ρ, S, vx, rfl, st, r1, ok⟩ := h
  unfold popAt at ok
  split at ok
  · rename_i l
    obtain ⟨a, ea, ha⟩ := vr_loc.mp r1
    split at ok
    · rename_i ys hl
      obtain ⟨vs, hq, rs⟩ := st.cl l a _ ha hl
      split at ok
      · rename_i j hj
        split at ok
        · rename_i w hw
          have hj2 : j = ys.length - 1 := by
            unfold Sv.ixN at hj
            simp only [Option.getD_none] at hj
            rw [if_neg (by decide)] at hj
            split at hj
            · have := Option.some.inj hj; omega
            · cases hj
          obtain ⟨z, hz, rz⟩ := rs.get hw
          have el : vs.dropLast = vs.eraseIdx j := by rw [← erase_last, ← rs.length, ← hj2]
          refine mt_pop pins s σ H x _ v us Q I rx rxs ⟨a, vs, z, ea, rfl, hq, by rw [← rs.length, ← hj2]; exact hz, ?_⟩
          rw [el]
          obtain ⟨st', g⟩ := st.write (c := .lst (ys.eraseIdx j)) (o := .lst (vs.eraseIdx j)) ha fun g => ⟨_, upd_same, (rs.mono g).eraseIdx j⟩
          exact ok _ _ _ g st' (rz.mono g)
        · exact ok.elim
      · exact ok.elim
    · exact ok.elim
  · exact ok.elim
def rPopI (B : Bk) (T : List (Addr × Str)) : V → List V → Hp → VK → Prop := fun x xs H Q => ∃ ρ S vx vy y, xs = [y] ∧ StR B T ρ H S ∧ VR B ρ H vx x ∧ VR B ρ H vy y ∧ OkV B T ρ H (popiV vx vy S) Q
theorem popi_ok : MtM X "list.pop" (rPopI B T) := by
  intro pins s σ H x xs v us Q I rx rxs h
  obtain ⟨ρ, S, vx, vy, y, rfl, st, r1, r2, ok⟩ := h
  unfold popiV at ok
  split at ok
  rotate_left
  · exact ok.elim
  rename_i k
  have ey := vr_int.mp r2
  unfold popAt at ok
  split at ok
  · rename_i l
    obtain ⟨a, ea, ha⟩ := vr_loc.mp r1
    split at ok
    · rename_i ys hl
      obtain ⟨vs, hq, rs⟩ := st.cl l a _ ha hl
      split at ok
      · rename_i j hj
        split at ok
        · rename_i w hw
          obtain ⟨z, hz, rz⟩ := rs.get hw
          have hlen := rs.length
          have hbig := I.hok a _ hq
          have hz1 : vs.length ≤ sizeLine := hbig.1
          have h63 := line63
          simp only [Option.getD_some] at hj
          have hs : seqIndex? k vs.length = some j ∧ -(2 ^ 63) ≤ k ∧ k < 2 ^ 63 := by
            unfold Sv.ixN at hj
            rw [hlen] at hj
            split at hj
            · split at hj
              · have := Option.some.inj hj
                exact ⟨by rw [seqIndex_of (by omega) (by omega), this], by omega, by omega⟩
              · cases hj
            · split at hj
              · have := Option.some.inj hj
                exact ⟨by rw [seqIndex_neg (by omega) (by omega), this], by omega, by omega⟩
              · cases hj
          refine mt_popAt pins s σ H x _ v us Q I rx rxs ⟨a, vs, k, j, z, ea, by rw [ey], hq, hs.2.1, hs.2.2, hs.1, hz, ?_⟩
          obtain ⟨st', g⟩ := st.write (c := .lst (ys.eraseIdx j)) (o := .lst (vs.eraseIdx j)) ha fun g => ⟨_, upd_same, (rs.mono g).eraseIdx j⟩
          exact ok _ _ _ g st' (rz.mono g)
        · exact ok.elim
      · exact ok.elim
    · exact ok.elim
  · exact ok.elim
def rApp (B : Bk) (T : List (Addr × Str)) : V → List V → Hp → VK → Prop := fun x xs H Q => ∃ ρ S vx vy y S', xs = [y] ∧ StR B T ρ H S ∧ VR B ρ H vx x ∧ VR B ρ H vy y ∧ app vx vy S = some S' ∧ OkS B T ρ H S' (fun H' => Q .non H')
theorem app_ok : MtM X "list.append" (rApp B T) := by
  intro pins s σ H x xs v us Q I rx rxs h
  obtain ⟨ρ, S, vx, vy, y, S', rfl, st, r1, r2, e, ok⟩ := h
  unfold app at e
  split at e
  · rename_i l
    obtain ⟨a, ea, ha⟩ := vr_loc.mp r1
    split at e
    · rename_i ys hl
      obtain ⟨vs, hq, rs⟩ := st.cl l a _ ha hl
      split at e
      · rename_i hlen
        cases e
        have hl2 := rs.length
        have hll := line_le
        unfold line at hlen hll
        refine mt_append pins s σ H x _ v us Q I rx rxs ⟨a, vs, y, ea, rfl, hq, by omega, ?_⟩
        obtain ⟨st', g⟩ := st.write (c := .lst (ys ++ [vy])) (o := .lst (vs ++ [y])) ha fun g => ⟨_, upd_same, (rs.mono g).append (.cons (r2.mono g) .nil)⟩
        exact ok _ _ g st'
      · cases e
    · cases e
  · cases e
def rIndexOf (B : Bk) (T : List (Addr × Str)) : V → List V → Hp → VK → Prop := fun x xs H Q => ∃ ρ S vx vy y, xs = [y] ∧ StR B T ρ H S ∧ VR B ρ H vx x ∧ VR B ρ H vy y ∧ OkV B T ρ H (indexOf vx vy S) Q
/-! ### truth -/
def rTru (B : Bk) (T : List (Addr × Str)) : V → Hp → (Bool → Hp → Prop) → Prop := fun x H Q => ∃ ρ S vx b, StR B T ρ H S ∧ VR B ρ H vx x ∧ truth vx S = some b ∧ Q b H
theorem truth_ok (hK : B.K = X.K) {ρ : List Addr} {S : Store} {H : Hp} {vx : PV} {x : V} {b : Bool} (st : StR B T ρ H S) (r1 : VR B ρ H vx x) (e : truth vx S = some b) : TruV X.K x H b := by
  unfold truth at e
  split at e
  · cases e; rw [vr_non.mp r1]; rfl
  · cases e; rw [vr_bl.mp r1]; rfl
  · rename_i i
    cases e; rw [vr_int.mp r1]
    show decide (i ≠ 0) = (i != 0)
    by_cases h : i = 0 <;> simp [h]
  · split at e
    · rename_i ys hi
      cases e
      obtain ⟨a, vs, ea, hq, rs⟩ := items_seq st r1 hi
      rw [hK] at hq
      have he : ys.isEmpty = vs.isEmpty := by
        have := rs.length
        cases ys <;> cases vs <;> simp at this ⊢
      rw [ea, he]
      rcases hq with hq | hq
      · exact .inl ⟨vs, hq, rfl⟩
      · exact .inr (.inl ⟨vs, hq, rfl⟩)
    · cases e
end
end Sv
end

section
set_option Elab.async false
set_option linter.all false
set_option maxRecDepth 100000
set_option maxHeartbeats 1000000
/-! readings of expressions, node by node -/
namespace Sv
open PySem PySem.Spec PyProof.Rows L2

/-- an error that leaves: its class, behind a store that holds -/
def ExR (B : Bk) (T : List (Addr × Str)) (Z : XK) (ρ : List Addr) (H : Hp) (c : PV) (S' : Store) : Prop :=
  ∀ ρ' H' C k, Go ρ ρ' H H' → StR B T ρ' H' S' → c = .exc C [] → B.exc C = some k → Z (.ref k) none H'
/-- what follows a result -/
def RG {α β : Type} (B : Bk) (T : List (Addr × Str)) (Z : XK) (rel : List Addr → Hp → α → β → Prop) (ρ : List Addr) (H : Hp) (r : Rs α) (Q : β → Hp → Prop) : Prop := match r with
  | .ok a S' => ∀ b ρ' H', Go ρ ρ' H H' → StR B T ρ' H' S' → rel ρ' H' a b → Q b H'
  | .ex c S' => ExR B T Z ρ H c S'
  | .no => False
/-- the slots -/
def SgR (B : Bk) (ρ : List Addr) (H : Hp) (sg : Sg) (σ : L2.St) : Prop := sg.length ≤ σ.length ∧ ∀ i v, getS sg i = some v → ∃ x, σ[i]? = some (some x) ∧ VR B ρ H v x
abbrev eqR {α : Type} : List Addr → Hp → α → α → Prop := fun _ _ a b => a = b
section
variable {B : Bk} {T : List (Addr × Str)} {Z : XK} {ρ ρ1 : List Addr} {H H1 : Hp} {S : Store}
theorem SgR.mono {sg : Sg} {σ : L2.St} (h : SgR B ρ H sg σ) (g : Go ρ ρ1 H H1) : SgR B ρ1 H1 sg σ := ⟨h.1, fun i v e => let ⟨x, e1, r⟩ := h.2 i v e; ⟨x, e1, r.mono g⟩⟩
theorem ExR.mono {c : PV} (h : ExR B T Z ρ H c S) (g : Go ρ ρ1 H H1) : ExR B T Z ρ1 H1 c S := fun ρ' H' C k g' st e1 e2 => h ρ' H' C k (g.trans g') st e1 e2
theorem RG.mono {α β : Type} {rel : List Addr → Hp → α → β → Prop} {r : Rs α} {Q : β → Hp → Prop} (h : RG B T Z rel ρ H r Q) (g : Go ρ ρ1 H H1) : RG B T Z rel ρ1 H1 r Q := by
  cases r with
  | ok a S' => exact fun b ρ' H' g' st q => h b ρ' H' (g.trans g') st q
  | ex c S' => exact ExR.mono h g
  | no => exact h
theorem RG.imp {α β : Type} {rel : List Addr → Hp → α → β → Prop} {r : Rs α} {Q Q' : β → Hp → Prop} (h : RG B T Z rel ρ H r Q) (i : ∀ b H, Q b H → Q' b H) : RG B T Z rel ρ H r Q' := by
  cases r with
  | ok a S' => exact fun b ρ' H' g' st q => i _ _ (h b ρ' H' g' st q)
  | ex c S' => exact h
  | no => exact h
theorem RG.bind {α β γ δ : Type} {rel : List Addr → Hp → α → β → Prop} {rel' : List Addr → Hp → γ → δ → Prop} {r : Rs γ} {f : γ → Store → Rs α} {Q : β → Hp → Prop} {R : δ → Hp → Prop} (h : RG B T Z rel ρ H (r.bind f) Q)
    (k : ∀ d ρ1 H1 c S1, Go ρ ρ1 H H1 → StR B T ρ1 H1 S1 → rel' ρ1 H1 c d → RG B T Z rel ρ1 H1 (f c S1) Q → R d H1) : RG B T Z rel' ρ H r R := by
  cases r with
  | ok c S1 => exact fun d ρ1 H1 g st q => k d ρ1 H1 c S1 g st q (RG.mono h g)
  | ex c S1 => exact h
  | no => exact h
theorem RG.ok {α β : Type} {rel : List Addr → Hp → α → β → Prop} {a : α} {b : β} {Q : β → Hp → Prop} (h : RG B T Z rel ρ H (.ok a S) Q) (st : StR B T ρ H S) (r : rel ρ H a b) : Q b H := h b ρ H (Go.refl _ _) st r
/-- no error in it -/
def NoEx {α : Type} (r : Rs α) : Prop := match r with
  | .ex _ _ => False
  | _ => True
theorem RG.okV {r : Rs PV} {Q : VK} (h : RG B T Z (VR B) ρ H r Q) (n : NoEx r) : OkV B T ρ H r Q := by
  cases r with
  | ok v S' => exact h
  | ex c S' => exact n.elim
  | no => exact h
end
theorem nx_mkL {m : Bool} {xs : List PV} {S : Store} : NoEx (mkL m xs S) := by cases m <;> exact trivial
theorem nx_binop {o : Bo} {m : Bool} {x y : PV} {S : Store} : NoEx (binop o m x y S) := by
  unfold binop
  repeat' split
  all_goals first
    | exact trivial
    | exact nx_mkL
theorem nx_index {x i : PV} {S : Store} : NoEx (index x i S) := by
  unfold index
  repeat' split
  all_goals exact trivial
theorem nx_neg {x : PV} {S : Store} : NoEx (negV x S) := by unfold negV; split <;> exact trivial
theorem nx_slc {m : Bool} {x : PV} {l h : Option Int} {S : Store} : NoEx (slcV m x l h S) := by
  unfold slcV
  repeat' split
  all_goals first
    | exact trivial
    | exact nx_mkL
theorem nx_dgs {x : PV} {k : String} {S : Store} : NoEx (dgsV x k S) := by
  unfold dgsV
  repeat' split
  all_goals exact trivial
theorem nx_bi {b : Bi} {x : PV} {S : Store} : NoEx (bi1 b x S) := by
  unfold bi1
  repeat' split
  all_goals exact trivial
theorem nx_bl {b : Bl} {m : Bool} {x : PV} {S : Store} : NoEx (bl1 b m x S) := by
  unfold bl1
  repeat' split
  all_goals first
    | exact trivial
    | exact nx_mkL
theorem nx_mm {b : Bool} {x y : PV} {S : Store} : NoEx (mmV b x y S) := by unfold mmV; split <;> exact trivial
theorem nx_popAt {x : PV} {i : Option Int} {S : Store} : NoEx (popAt x i S) := by
  unfold popAt
  repeat' split
  all_goals exact trivial
theorem nx_popi {x y : PV} {S : Store} : NoEx (popiV x y S) := by
  unfold popiV
  split
  · exact nx_popAt
  · exact trivial
theorem nx_indexOf {x y : PV} {S : Store} : NoEx (indexOf x y S) := by
  unfold indexOf
  repeat' split
  all_goals exact trivial
theorem nx_attr {x : PV} {j : List (Nat × Nat)} {S : Store} : NoEx (attr x j S) := by
  unfold attr fAt
  repeat' split
  all_goals exact trivial

/-! ### the readings; ex: what is being made -/
abbrev Bk.wx (B : Bk) (ex : List Addr) : Bk := { B with ex := ex }
theorem _root_.L2.OpR.exi {X : Cx} {f : Value → Value → Sem Value} {ι : Type} {r : ι → R2} (h : ∀ i, OpR X f (r i)) : OpR X f (fun x y H Q => ∃ i, r i x y H Q) := fun pins s σ H x y v u Q I rx ry ⟨i, q⟩ => h i pins s σ H x y v u Q I rx ry q
theorem _root_.L2.CallR.exi {X : Cx} {f : Value} {ι : Type} {r : ι → List V → Hp → VK → Prop} (h : ∀ i, CallR X f (r i)) : CallR X f (fun x H Q => ∃ i, r i x H Q) := fun pins s σ H x us Q I rx ⟨i, q⟩ => h i pins s σ H x us Q I rx q
theorem _root_.L2.MtR.exi {X : Cx} {f : String} {ι : Type} {r : ι → V → List V → Hp → VK → Prop} (h : ∀ i, MtR X f (r i)) : MtR X f (fun x xs H Q => ∃ i, r i x xs H Q) := fun pins s σ H x xs v us Q I rx ry ⟨i, q⟩ => h i pins s σ H x xs v us Q I rx ry q
theorem _root_.L2.IxR.exi {X : Cx} {ι : Type} {r : ι → R2} (h : ∀ i, IxR X (r i)) : IxR X (fun x y H Q => ∃ i, r i x y H Q) := fun e1 e2 pins s σ H x y v u Q I rx ry ⟨i, q⟩ hs => h i e1 e2 pins s σ H x y v u Q I rx ry q hs
theorem _root_.L2.SlR.exi {X : Cx} {ι : Type} {r : ι → V → Option Int → Option Int → Hp → VK → Prop} (h : ∀ i, L2.SlR X (r i)) : L2.SlR X (fun x l u H Q => ∃ i, r i x l u H Q) := fun pins s σ H x v vl vu lo hi sl Q I rx hs pl pu ⟨i, q⟩ => h i pins s σ H x v vl vu lo hi sl Q I rx hs pl pu q
section
variable (B : Bk) (T : List (Addr × Str)) (Z : XK) (Φ : Phi)
def rdE (e : E) : TE := fun σ H Q => ∃ ex ρ S sg, StR (B.wx ex) T ρ H S ∧ SgR (B.wx ex) ρ H sg σ ∧ RG (B.wx ex) T Z (VR (B.wx ex)) ρ H (ev Φ e sg S) Q
def rdEs (es : Es) : TA := fun σ H Q => ∃ ex ρ S sg, StR (B.wx ex) T ρ H S ∧ SgR (B.wx ex) ρ H sg σ ∧ RG (B.wx ex) T Z (VRs (B.wx ex)) ρ H (evs Φ es sg S) Q
def rdO (e : Eo) : TO := fun σ H Q => ∃ ex ρ S sg, StR (B.wx ex) T ρ H S ∧ SgR (B.wx ex) ρ H sg σ ∧ RG (B.wx ex) T Z eqR ρ H (evo Φ e sg S) Q
def rdT (c : Tst) : TT := fun σ H Q => ∃ ex ρ S sg, StR (B.wx ex) T ρ H S ∧ SgR (B.wx ex) ρ H sg σ ∧ RG (B.wx ex) T Z eqR ρ H (evt Φ c sg S) Q
end
/-- what a body's context must be -/
structure Sit (X : Cx) (B : Bk) (Z : XK) : Prop where
  K : B.K = X.K
  calm : X.calm = true
  units : X.A.units + 65 < cLine
  nd : X.N.Nodup
  takes : Takes X (fun cls d _ H => Z cls d H)
theorem _root_.L2.PE.of {X : Cx} {e : Expr} {t t' : TE} (h : PE X e t) (i : ∀ σ H Q, t' σ H Q → t σ H Q) : PE X e t' := ⟨fun pins s σ H Q I q => h.run pins s σ H Q I (i σ H Q q)⟩
theorem _root_.L2.PA.of {X : Cx} {e : List Expr} {t t' : TA} (h : PA X e t) (i : ∀ σ H Q, t' σ H Q → t σ H Q) : PA X e t' := ⟨fun pos pins s σ H Q I q => h.run pos pins s σ H Q I (i σ H Q q)⟩
theorem _root_.L2.PO.of {X : Cx} {e : Option Expr} {t t' : TO} (h : PO X e t) (i : ∀ σ H Q, t' σ H Q → t σ H Q) : PO X e t' := ⟨fun pins s σ H Q I q => h.run pins s σ H Q I (i σ H Q q)⟩
theorem _root_.L2.PT.of {X : Cx} {e : Expr} {t t' : TT} (h : PT X e t) (i : ∀ σ H Q, t' σ H Q → t σ H Q) : PT X e t' := ⟨fun pins s σ H Q I q => h.run pins s σ H Q I (i σ H Q q)⟩
section
variable {X : Cx} {B : Bk} {T : List (Addr × Str)} {Z : XK} {Φ : Phi}
variable {ex ρ : List Addr} {H : Hp} {S : Store} {sg : Sg} {σ : L2.St}
theorem goE {β : Type} {α : Type} {rel : List Addr → Hp → α → β → Prop} {e : E} {f : PV → Store → Rs α} {Q : β → Hp → Prop} {R : VK} (st : StR (B.wx ex) T ρ H S) (sr : SgR (B.wx ex) ρ H sg σ) (h : RG (B.wx ex) T Z rel ρ H ((ev Φ e sg S).bind f) Q)
    (k : ∀ x ρ1 H1 v S1, Go ρ ρ1 H H1 → StR (B.wx ex) T ρ1 H1 S1 → SgR (B.wx ex) ρ1 H1 sg σ → VR (B.wx ex) ρ1 H1 v x → RG (B.wx ex) T Z rel ρ1 H1 (f v S1) Q → R x H1) : rdE B T Z Φ e σ H R :=
  ⟨ex, ρ, S, sg, st, sr, h.bind fun x ρ1 H1 v S1 g st1 r h1 => k x ρ1 H1 v S1 g st1 (sr.mono g) r h1⟩
theorem goEs {β : Type} {α : Type} {rel : List Addr → Hp → α → β → Prop} {e : Es} {f : List PV → Store → Rs α} {Q : β → Hp → Prop} {R : List V → Hp → Prop} (st : StR (B.wx ex) T ρ H S) (sr : SgR (B.wx ex) ρ H sg σ) (h : RG (B.wx ex) T Z rel ρ H ((evs Φ e sg S).bind f) Q)
    (k : ∀ x ρ1 H1 v S1, Go ρ ρ1 H H1 → StR (B.wx ex) T ρ1 H1 S1 → SgR (B.wx ex) ρ1 H1 sg σ → VRs (B.wx ex) ρ1 H1 v x → RG (B.wx ex) T Z rel ρ1 H1 (f v S1) Q → R x H1) : rdEs B T Z Φ e σ H R :=
  ⟨ex, ρ, S, sg, st, sr, h.bind fun x ρ1 H1 v S1 g st1 r h1 => k x ρ1 H1 v S1 g st1 (sr.mono g) r h1⟩
theorem goO {β : Type} {α : Type} {rel : List Addr → Hp → α → β → Prop} {e : Eo} {f : Option Int → Store → Rs α} {Q : β → Hp → Prop} {R : Option Int → Hp → Prop} (st : StR (B.wx ex) T ρ H S) (sr : SgR (B.wx ex) ρ H sg σ) (h : RG (B.wx ex) T Z rel ρ H ((evo Φ e sg S).bind f) Q)
    (k : ∀ v ρ1 H1 S1, Go ρ ρ1 H H1 → StR (B.wx ex) T ρ1 H1 S1 → SgR (B.wx ex) ρ1 H1 sg σ → RG (B.wx ex) T Z rel ρ1 H1 (f v S1) Q → R v H1) : rdO B T Z Φ e σ H R :=
  ⟨ex, ρ, S, sg, st, sr, h.bind (rel' := eqR) fun x ρ1 H1 v S1 g st1 r h1 => by cases r; exact k x ρ1 H1 S1 g st1 (sr.mono g) h1⟩
theorem goT {β : Type} {α : Type} {rel : List Addr → Hp → α → β → Prop} {e : Tst} {f : Bool → Store → Rs α} {Q : β → Hp → Prop} {R : Bool → Hp → Prop} (st : StR (B.wx ex) T ρ H S) (sr : SgR (B.wx ex) ρ H sg σ) (h : RG (B.wx ex) T Z rel ρ H ((evt Φ e sg S).bind f) Q)
    (k : ∀ v ρ1 H1 S1, Go ρ ρ1 H H1 → StR (B.wx ex) T ρ1 H1 S1 → SgR (B.wx ex) ρ1 H1 sg σ → RG (B.wx ex) T Z rel ρ1 H1 (f v S1) Q → R v H1) : rdT B T Z Φ e σ H R :=
  ⟨ex, ρ, S, sg, st, sr, h.bind (rel' := eqR) fun x ρ1 H1 v S1 g st1 r h1 => by cases r; exact k x ρ1 H1 S1 g st1 (sr.mono g) h1⟩

variable {pa pb pc : Expr} {a b c : E} {pos : Pos}
theorem nd_non {j} : PE X (.Constant .none j pos) (rdE B T Z Φ .kn) := pe_non.of fun σ H Q ⟨ex, ρ, S, sg, st, sr, h⟩ => by rw [ev] at h; exact h.ok st (vr_non.mpr rfl)
theorem nd_bool {j} {k : Bool} : PE X (.Constant (.bool k) j pos) (rdE B T Z Φ (.kb k)) := pe_bl.of fun σ H Q ⟨ex, ρ, S, sg, st, sr, h⟩ => by rw [ev] at h; exact h.ok st (vr_bl.mpr rfl)
theorem nd_int {j} {k : Int} : PE X (.Constant (.int k) j pos) (rdE B T Z Φ (.ki k)) := pe_int.of fun σ H Q ⟨ex, ρ, S, sg, st, sr, h⟩ => by rw [ev] at h; exact h.ok st (vr_int.mpr rfl)
theorem nd_str {j} {z : String} : PE X (.Constant (.str (Str.ofString z)) j pos) (rdE B T Z Φ (.ks z)) := pe_str.of fun σ H Q ⟨ex, ρ, S, sg, st, sr, h⟩ => by rw [ev] at h; exact h.ok st (vr_str.mpr rfl)
theorem nd_x {i : Nat} {x : Str} (hN : X.N[i]? = some x) (hv : Vis X.env.scope x) (hd : (x == ("__debug__" : Str)) = false) (hcd : (x == ("__classdict__" : Str)) = false) : PE X (.Name x pos) (rdE B T Z Φ (.x i)) :=
  (pe_var hN hv hd hcd).of fun σ H Q ⟨ex, ρ, S, sg, st, sr, h⟩ => by
    rw [ev] at h
    cases e : getS sg i with
    | none => rw [e] at h; exact h.elim
    | some v =>
      rw [e] at h
      obtain ⟨x, ex, r⟩ := sr.2 i v e
      exact ⟨x, ex, h.ok st r⟩
theorem nd_gi {n : String} {i : Int} {x : Str} {t : Tok} (hg : Gl X x) (hm : X.mg x = some (.int i t)) (hd : (x == ("__debug__" : Str)) = false) : PE X (.Name x pos) (rdE B T Z Φ (.gi n i)) :=
  (pe_glob (v := .int i) hg hm ⟨t, rfl⟩ hd).of fun σ H Q ⟨ex, ρ, S, sg, st, sr, h⟩ => by rw [ev] at h; exact h.ok st (vr_int.mpr rfl)
theorem nd_bin (si : Sit X B Z) {o : Bo} {m : Bool} (ha : PE X pa (rdE B T Z Φ a)) (hb : PE X pb (rdE B T Z Φ b)) : PE X (.BinOp pa (boOp o) pb pos) (rdE B T Z Φ (.bin o m a b)) :=
  (pe_op (OpR.exi fun ex => bin_ok (B := B.wx ex) (T := T) (m := m) si.K) ha hb).of fun σ H Q ⟨ex, ρ, S, sg, st, sr, h⟩ => by
    rw [ev] at h
    exact goE st sr h fun x ρ1 H1 v S1 g1 st1 sr1 r1 h1 => goE st1 sr1 h1 fun y ρ2 H2 w S2 g2 st2 sr2 r2 h2 => ⟨ex, ρ2, S2, v, w, st2, r1.mono g2, r2, h2.okV nx_binop⟩
theorem nd_neg (ha : PE X pa (rdE B T Z Φ a)) : PE X (.UnaryOp .USub pa pos) (rdE B T Z Φ (.neg a)) :=
  (pe_un un_neg ha).of fun σ H Q ⟨ex, ρ, S, sg, st, sr, h⟩ => by
    rw [ev] at h
    refine goE st sr h fun x ρ1 H1 v S1 g1 st1 sr1 r1 h1 => ?_
    unfold negV at h1
    split at h1
    · exact ⟨_, vr_int.mp r1, h1.ok st1 (vr_int.mpr rfl)⟩
    · exact h1.elim
/-! ### comparisons -/
/-- a comparison, by values, instances among them -/
def rCmp2 (B : Bk) (T : List (Addr × Str)) (Z : XK) (Φ : Phi) (o : Co) : R2 := fun x y H Q => ∃ ex ρ S vx vy, StR (B.wx ex) T ρ H S ∧ VR (B.wx ex) ρ H vx x ∧ VR (B.wx ex) ρ H vy y ∧ RG (B.wx ex) T Z (VR (B.wx ex)) ρ H (cmpop Φ o vx vy S) Q
theorem nd_cmp {o : Co} (hc : OpR X (compareOp (coOp o)) (rCmp2 B T Z Φ o)) (ha : PE X pa (rdE B T Z Φ a)) (hb : PE X pb (rdE B T Z Φ b)) (hm : behindInMarks (coOp o) pb = false) : PE X (.Compare pa [coOp o] [pb] pos) (rdE B T Z Φ (.cmp o a b)) :=
  (pe_cmpR hc ha hb hm).of fun σ H Q ⟨ex, ρ, S, sg, st, sr, h⟩ => by
    rw [ev] at h
    exact goE st sr h fun x ρ1 H1 v S1 g1 st1 sr1 r1 h1 => goE st1 sr1 h1 fun y ρ2 H2 w S2 g2 st2 sr2 r2 h2 => ⟨ex, ρ2, S2, v, w, st2, r1.mono g2, r2, h2⟩
/-- a value that is a bool, as a test -/
theorem test_bl {e : E} {Q : Bool → Hp → Prop} (hb : ∀ sg S v S', ev Φ e sg S = .ok v S' → ∃ k, v = .bl k) (h : rdT B T Z Φ (.v e) σ H Q) : rdE B T Z Φ e σ H fun x H' => ∃ k, x = .bl k ∧ Q k H' := by
  obtain ⟨ex, ρ, S, sg, st, sr, h⟩ := h
  rw [evt] at h
  refine ⟨ex, ρ, S, sg, st, sr, ?_⟩
  cases e1 : ev Φ e sg S with
  | ok v S1 =>
    obtain ⟨k, rfl⟩ := hb _ _ _ _ e1
    rw [e1] at h
    intro x ρ1 H1 g st1 r
    exact ⟨k, vr_bl.mp r, h k ρ1 H1 g st1 rfl⟩
  | ex c S1 => rw [e1] at h; exact h
  | no => rw [e1] at h; exact h
theorem bind_inv {α β : Type} {r : Rs α} {f : α → Store → Rs β} {v : β} {S' : Store} (h : r.bind f = .ok v S') : ∃ a S1, r = .ok a S1 ∧ f a S1 = .ok v S' := by
  cases r with
  | ok a S1 => exact ⟨a, S1, rfl, h⟩
  | ex c S1 => cases h
  | no => cases h
theorem eqv_bl {x y : PV} {S S' : Store} {k : Bool → Store → Rs PV} (hk : ∀ b S1 v S', k b S1 = .ok v S' → ∃ c, v = .bl c) {v : PV} (h : eqv Φ x y S k = .ok v S') : ∃ c, v = .bl c := by
  unfold eqv at h
  split at h
  · obtain ⟨a, S1, _, h⟩ := bind_inv h
    split at h
    · exact hk _ _ _ _ h
    · cases h
  · split at h
    · exact hk _ _ _ _ h
    · split at h
      · split at h
        · cases h
        · exact hk _ _ _ _ h
      · cases h
theorem cmp_bl {o : Co} {x y : PV} {S S' : Store} {v : PV} (h : cmpop Φ o x y S = .ok v S') : ∃ k, v = .bl k := by
  unfold cmpop at h
  repeat' split at h
  all_goals first
    | (cases h; exact ⟨_, rfl⟩)
    | (cases h; done)
    | (refine eqv_bl (fun b S1 v S' h => ?_) h; cases h; exact ⟨_, rfl⟩)
theorem nd_cmpT {o : Co} (hc : OpR X (compareOp (coOp o)) (rCmp2 B T Z Φ o)) (ha : PE X pa (rdE B T Z Φ a)) (hb : PE X pb (rdE B T Z Φ b)) (hm : behindInMarks (coOp o) pb = false) : PT X (.Compare pa [coOp o] [pb] pos) (rdT B T Z Φ (.v (.cmp o a b))) :=
  (pt_cmpR hc ha hb hm).of fun σ H Q h => by
    obtain ⟨ex, ρ, S, sg, st, sr, h⟩ := test_bl (fun sg S v S' h => by
      rw [ev] at h
      obtain ⟨_, _, _, h⟩ := bind_inv h
      obtain ⟨_, _, _, h⟩ := bind_inv h
      exact cmp_bl h) h
    rw [ev] at h
    exact goE st sr h fun x ρ1 H1 v S1 g1 st1 sr1 r1 h1 => goE st1 sr1 h1 fun y ρ2 H2 w S2 g2 st2 sr2 r2 h2 => ⟨ex, ρ2, S2, v, w, st2, r1.mono g2, r2, h2⟩
end
end Sv
end

section
set_option Elab.async false
set_option linter.all false
set_option maxRecDepth 100000
set_option maxHeartbeats 1000000
namespace Sv
open PySem PySem.Spec PyProof.Rows L2
section
variable {X : Cx} {B : Bk} {T : List (Addr × Str)} {Z : XK} {Φ : Phi}
variable {ex ρ : List Addr} {H : Hp} {S : Store} {sg : Sg} {σ : L2.St}
variable {pa pb pc : Expr} {a b c : E} {pos : Pos} {rest : List Expr}
theorem RG.bl {k : Bool} {Q : VK} (h : RG B T Z (VR B) ρ H (.ok (.bl k) S) Q) (st : StR B T ρ H S) : Q (.bl k) H := h.ok st (vr_bl.mpr rfl)
theorem nd_chn {o p : Co} (hc : OpR X (compareOp (coOp o)) (rCmp2 B T Z Φ o)) (hd : OpR X (compareOp (coOp p)) (rCmp2 B T Z Φ p)) (ha : PE X pa (rdE B T Z Φ a)) (hb : PE X pb (rdE B T Z Φ b)) (he : PE X pc (rdE B T Z Φ c))
    (hm : lastMarks [coOp o, coOp p] [pb, pc] = false) : PE X (.Compare pa [coOp o, coOp p] [pb, pc] pos) (rdE B T Z Φ (.chn o p a b c)) :=
  (pe_chain hc hd ha hb he hm).of fun σ H Q ⟨ex, ρ, S, sg, st, sr, h⟩ => by
    rw [ev] at h
    refine goE st sr h fun x ρ1 H1 v S1 g1 st1 sr1 r1 h1 => goE st1 sr1 h1 fun y ρ2 H2 w S2 g2 st2 sr2 r2 h2 => ⟨ex, ρ2, S2, v, w, st2, r1.mono g2, r2, h2.bind fun z ρ3 H3 u S3 g3 st3 r3 h3 => ?_⟩
    unfold ifB at h3
    split at h3
    · refine ⟨true, vr_bl.mp r3, ?_⟩
      rw [if_pos rfl]
      exact goE st3 (sr2.mono g3) h3 fun z' ρ4 H4 w' S4 g4 st4 sr4 r4 h4 => ⟨ex, ρ4, S4, w, w', st4, r2.mono (g3.trans g4), r4, h4⟩
    · refine ⟨false, vr_bl.mp r3, ?_⟩
      rw [if_neg (by decide)]
      exact h3.bl st3
    · exact h3.elim
theorem chn_bl {o p : Co} {S S' : Store} {sg : Sg} {v : PV} (h : ev Φ (.chn o p a b c) sg S = .ok v S') : ∃ k, v = .bl k := by
  rw [ev] at h
  obtain ⟨_, _, _, h⟩ := bind_inv h
  obtain ⟨_, _, _, h⟩ := bind_inv h
  obtain ⟨_, _, _, h⟩ := bind_inv h
  unfold ifB at h
  split at h
  · obtain ⟨_, _, _, h⟩ := bind_inv h
    exact cmp_bl h
  · cases h; exact ⟨_, rfl⟩
  · cases h
theorem nd_chnT {o p : Co} (hc : OpR X (compareOp (coOp o)) (rCmp2 B T Z Φ o)) (hd : OpR X (compareOp (coOp p)) (rCmp2 B T Z Φ p)) (ha : PE X pa (rdE B T Z Φ a)) (hb : PE X pb (rdE B T Z Φ b)) (he : PE X pc (rdE B T Z Φ c))
    (hm : lastMarks [coOp o, coOp p] [pb, pc] = false) : PT X (.Compare pa [coOp o, coOp p] [pb, pc] pos) (rdT B T Z Φ (.v (.chn o p a b c))) :=
  (pt_chain hc hd ha hb he hm).of fun σ H Q h => by
    obtain ⟨ex, ρ, S, sg, st, sr, h⟩ := test_bl (fun sg S v S' h => chn_bl h) h
    rw [ev] at h
    refine goE st sr h fun x ρ1 H1 v S1 g1 st1 sr1 r1 h1 => goE st1 sr1 h1 fun y ρ2 H2 w S2 g2 st2 sr2 r2 h2 => ⟨ex, ρ2, S2, v, w, st2, r1.mono g2, r2, h2.bind fun z ρ3 H3 u S3 g3 st3 r3 h3 => ?_⟩
    unfold ifB at h3
    split at h3
    · refine ⟨true, vr_bl.mp r3, ?_⟩
      rw [if_pos rfl]
      exact goE st3 (sr2.mono g3) h3 fun z' ρ4 H4 w' S4 g4 st4 sr4 r4 h4 => ⟨ex, ρ4, S4, w, w', st4, r2.mono (g3.trans g4), r4, h4⟩
    · refine ⟨false, vr_bl.mp r3, ?_⟩
      rw [if_neg (by decide)]
      exact h3.bl st3
    · exact h3.elim
/-! ### is -/
theorem isNon_iff {v : PV} {x : V} (r : VR B ρ H v x) : decide (x = .non) = isNon v := by
  cases v with
  | non => rw [vr_non.mp r]; rfl
  | bl k => rw [vr_bl.mp r]; rfl
  | int i => rw [vr_int.mp r]; rfl
  | str z => rw [vr_str.mp r]; rfl
  | tup xs => obtain ⟨p, vs, e, _⟩ := vr_tup.mp r; rw [e]; rfl
  | lst xs => obtain ⟨p, vs, e, _⟩ := vr_lst.mp r; rw [e]; rfl
  | fz xs => obtain ⟨p, vs, e, _⟩ := vr_fz.mp r; rw [e]; rfl
  | ins C fs => obtain ⟨p, vs, _, _, e, _⟩ := vr_ins.mp r; rw [e]; rfl
  | exc C fs => obtain ⟨p, vs, e, _⟩ := vr_exc.mp r; rw [e]; rfl
  | loc i => obtain ⟨p, e, _⟩ := vr_loc.mp r; rw [e]; rfl
  | clo k => obtain ⟨p, _, _, _, _, e, _⟩ := vr_clo.mp r; rw [e]; rfl
  | dic => obtain ⟨p, _, e, _⟩ := vr_dic.mp r; rw [e]; rfl
theorem isB_iff {v : PV} {x : V} {k : Bool} (r : VR B ρ H v x) : decide (x = .bl k) = isB k v := by
  cases v with
  | non => rw [vr_non.mp r]; rfl
  | bl c => rw [vr_bl.mp r]; cases c <;> cases k <;> rfl
  | int i => rw [vr_int.mp r]; rfl
  | str z => rw [vr_str.mp r]; rfl
  | tup xs => obtain ⟨p, vs, e, _⟩ := vr_tup.mp r; rw [e]; rfl
  | lst xs => obtain ⟨p, vs, e, _⟩ := vr_lst.mp r; rw [e]; rfl
  | fz xs => obtain ⟨p, vs, e, _⟩ := vr_fz.mp r; rw [e]; rfl
  | ins C fs => obtain ⟨p, vs, _, _, e, _⟩ := vr_ins.mp r; rw [e]; rfl
  | exc C fs => obtain ⟨p, vs, e, _⟩ := vr_exc.mp r; rw [e]; rfl
  | loc i => obtain ⟨p, e, _⟩ := vr_loc.mp r; rw [e]; rfl
  | clo k => obtain ⟨p, _, _, _, _, e, _⟩ := vr_clo.mp r; rw [e]; rfl
  | dic => obtain ⟨p, _, e, _⟩ := vr_dic.mp r; rw [e]; rfl
def isOp : Bool → CmpOp
  | false => .Is
  | true => .IsNot
theorem pc_isn {neg : Bool} {j pos'} (ha : PE X pa (rdE B T Z Φ a)) : PC X (isOp neg) pa (.Constant .none j pos') (rdE B T Z Φ (.isn neg a)) := by
  have h : PC X (isOp neg) pa (.Constant .none j pos') (fun σ H Q => rdE B T Z Φ a σ H fun x H1 => Q (.bl (decide (x = .non) != neg)) H1) := by
    cases neg with
    | false => exact ⟨fun pins s σ H Q I q => (pc_isN ha).run pins s σ H Q I (by
        show rdE B T Z Φ a σ H _
        obtain ⟨ex, ρ, S, sg, st, sr, q⟩ := q
        exact ⟨ex, ρ, S, sg, st, sr, q.imp fun x H h => by simpa using h⟩)⟩
    | true => exact ⟨fun pins s σ H Q I q => (pc_notN ha).run pins s σ H Q I (by
        show rdE B T Z Φ a σ H _
        obtain ⟨ex, ρ, S, sg, st, sr, q⟩ := q
        exact ⟨ex, ρ, S, sg, st, sr, q.imp fun x H h => by simpa using h⟩)⟩
  refine ⟨fun pins s σ H Q I ⟨ex, ρ, S, sg, st, sr, q⟩ => h.run pins s σ H Q I ?_⟩
  rw [ev] at q
  exact goE st sr q fun x ρ1 H1 v S1 g1 st1 sr1 r1 h1 => by rw [isNon_iff r1]; exact h1.bl st1
theorem is_bool_gen {M : Model} {A : Around} {W : Value → Shared → Prop} {s : Shared} {Q : Value → Shared → Prop} {x : V} {v : Value} {d neg : Bool} (r : RelV x v) (h : Q (.bool ((v == .bool d) != neg)) s) : wpAny M A (compareOp (isOp neg) v (.bool d)) Q W s := by
  have hv : (∃ c, v = .bool c) ∨ (∃ i t, v = .int i t) ∨ (∃ i t, v = .str i t) ∨ (∃ i t, v = .bytes i t) ∨ (∃ i t, v = .float i t) ∨ (∃ a, v = .ref a) ∨ (∃ a, v = .type a) ∨ v = .none := by
    cases x with
    | non => cases r; simp
    | bl b => cases r; simp
    | int _ => obtain ⟨t, rfl⟩ := r; simp
    | str _ => obtain ⟨t, rfl⟩ := r; simp
    | byt _ => obtain ⟨t, rfl⟩ := r; simp
    | flt _ => obtain ⟨t, rfl⟩ := r; simp
    | ref _ => cases r; simp
    | ty _ => cases r; simp
  cases neg with
  | false =>
    rw [Bool.bne_false] at h
    rcases hv with ⟨_, rfl⟩ | ⟨_, _, rfl⟩ | ⟨_, _, rfl⟩ | ⟨_, _, rfl⟩ | ⟨_, _, rfl⟩ | ⟨_, rfl⟩ | ⟨_, rfl⟩ | rfl <;> exact wpAny_pure h
  | true =>
    rw [Bool.bne_true] at h
    rcases hv with ⟨_, rfl⟩ | ⟨_, _, rfl⟩ | ⟨_, _, rfl⟩ | ⟨_, _, rfl⟩ | ⟨_, _, rfl⟩ | ⟨_, rfl⟩ | ⟨_, rfl⟩ | rfl <;> exact wpAny_pure h
theorem relv_bool {x : V} {v : Value} {d : Bool} (r : RelV x v) : (v == Value.bool d) = decide (x = .bl d) := by
  cases x with
  | non => cases r; rfl
  | bl b => cases r; cases b <;> cases d <;> rfl
  | int _ => obtain ⟨t, rfl⟩ := r; rfl
  | str _ => obtain ⟨t, rfl⟩ := r; rfl
  | byt _ => obtain ⟨t, rfl⟩ := r; rfl
  | flt _ => obtain ⟨t, rfl⟩ := r; rfl
  | ref _ => cases r; rfl
  | ty _ => cases r; rfl
theorem pc_isb {neg d : Bool} {j pos'} (ha : PE X pa (rdE B T Z Φ a)) : PC X (isOp neg) pa (.Constant (.bool d) j pos') (rdE B T Z Φ (.isb neg d a)) := by
  refine ⟨fun pins s σ H Q I ⟨ex, ρ, S, sg, st, sr, q⟩ => ?_⟩
  rw [ev] at q
  have q' : rdE B T Z Φ a σ H fun x H1 => Q (.bl (decide (x = .bl d) != neg)) H1 := goE st sr q fun x ρ1 H1 v S1 g1 st1 sr1 r1 h1 => by rw [isB_iff r1]; exact h1.bl st1
  refine thn (ha.run pins s σ H _ I q') fun v s1 ⟨x, H1, I1, r1, q1⟩ => ?_
  exact Constant_bool (is_bool_gen r1 ⟨.bl _, H1, I1, by rw [relv_bool r1]; rfl, q1⟩)
theorem nomarkI {neg : Bool} (e : Expr) : behindInMarks (isOp neg) e = false := by cases neg <;> exact nobehind _ (by decide) (by decide)
theorem nd_isn {neg : Bool} {j pos'} (ha : PE X pa (rdE B T Z Φ a)) : PE X (.Compare pa [isOp neg] [.Constant .none j pos'] pos) (rdE B T Z Φ (.isn neg a)) := pe_cmp (pc_isn ha) (nomarkI _)
theorem nd_isb {neg d : Bool} {j pos'} (ha : PE X pa (rdE B T Z Φ a)) : PE X (.Compare pa [isOp neg] [.Constant (.bool d) j pos'] pos) (rdE B T Z Φ (.isb neg d a)) := pe_cmp (pc_isb ha) (nomarkI _)
theorem nd_isnT {neg : Bool} {j pos'} (ha : PE X pa (rdE B T Z Φ a)) : PT X (.Compare pa [isOp neg] [.Constant .none j pos'] pos) (rdT B T Z Φ (.v (.isn neg a))) :=
  (pt_cmp (pc_isn ha) (nomarkI _)).of fun σ H Q h => test_bl (fun sg S v S' h => by
    rw [ev] at h
    obtain ⟨_, _, _, h⟩ := bind_inv h
    cases h; exact ⟨_, rfl⟩) h
theorem nd_isbT {neg d : Bool} {j pos'} (ha : PE X pa (rdE B T Z Φ a)) : PT X (.Compare pa [isOp neg] [.Constant (.bool d) j pos'] pos) (rdT B T Z Φ (.v (.isb neg d a))) :=
  (pt_cmp (pc_isb ha) (nomarkI _)).of fun σ H Q h => test_bl (fun sg S v S' h => by
    rw [ev] at h
    obtain ⟨_, _, _, h⟩ := bind_inv h
    cases h; exact ⟨_, rfl⟩) h
/-! ### and, or, not, if -/
theorem nd_and {bs : List Expr} {pos' : Pos} (ha : PE X pa (rdE B T Z Φ a)) (hb : PE X (.BoolOp .And (pb :: rest) pos) (rdE B T Z Φ b)) : PE X (.BoolOp .And (pa :: pb :: rest) pos) (rdE B T Z Φ (.and a b)) :=
  (pe_and ha hb).of fun σ H Q ⟨ex, ρ, S, sg, st, sr, h⟩ => by
    rw [ev] at h
    refine goE st sr h fun x ρ1 H1 v S1 g1 st1 sr1 r1 h1 => ?_
    unfold ifB at h1
    split at h1
    · exact ⟨true, vr_bl.mp r1, by rw [if_pos rfl]; exact ⟨ex, ρ1, S1, sg, st1, sr1, h1⟩⟩
    · exact ⟨false, vr_bl.mp r1, by rw [if_neg (by decide)]; exact h1.bl st1⟩
    · exact h1.elim
theorem nd_or {bs : List Expr} {pos' : Pos} (ha : PE X pa (rdE B T Z Φ a)) (hb : PE X (.BoolOp .Or (pb :: rest) pos) (rdE B T Z Φ b)) : PE X (.BoolOp .Or (pa :: pb :: rest) pos) (rdE B T Z Φ (.or a b)) :=
  (pe_or ha hb).of fun σ H Q ⟨ex, ρ, S, sg, st, sr, h⟩ => by
    rw [ev] at h
    refine goE st sr h fun x ρ1 H1 v S1 g1 st1 sr1 r1 h1 => ?_
    unfold ifB at h1
    split at h1
    · exact ⟨true, vr_bl.mp r1, by rw [if_pos rfl]; exact h1.bl st1⟩
    · exact ⟨false, vr_bl.mp r1, by rw [if_neg (by decide)]; exact ⟨ex, ρ1, S1, sg, st1, sr1, h1⟩⟩
    · exact h1.elim
theorem nd_not (ha : PE X pa (rdE B T Z Φ a)) : PE X (.UnaryOp .Not pa pos) (rdE B T Z Φ (.not a)) :=
  (pe_not ha).of fun σ H Q ⟨ex, ρ, S, sg, st, sr, h⟩ => by
    rw [ev] at h
    refine goE st sr h fun x ρ1 H1 v S1 g1 st1 sr1 r1 h1 => ?_
    unfold notV at h1
    split at h1
    · exact ⟨_, vr_bl.mp r1, h1.bl st1⟩
    · exact h1.elim
theorem nd_ite {t : Tst} (hc : PT X pc (rdT B T Z Φ t)) (ha : PE X pa (rdE B T Z Φ a)) (hb : PE X pb (rdE B T Z Φ b)) : PE X (.IfExp pc pa pb pos) (rdE B T Z Φ (.ite t a b)) :=
  (pe_ifExp hc ha hb).of fun σ H Q ⟨ex, ρ, S, sg, st, sr, h⟩ => by
    rw [ev] at h
    refine goT st sr h fun k ρ1 H1 S1 g1 st1 sr1 h1 => ?_
    cases k with
    | true => rw [if_pos rfl]; exact ⟨ex, ρ1, S1, sg, st1, sr1, h1⟩
    | false => rw [if_neg (by decide)]; exact ⟨ex, ρ1, S1, sg, st1, sr1, h1⟩
/-! ### tests -/
theorem nt_v (si : Sit X B Z) (ha : PE X pa (rdE B T Z Φ a)) (he : ∀ whole, isTrue pa X.env whole = (do let v ← whole; standAt pa.pos; holding [v] (truthy v))) : PT X pa (rdT B T Z Φ (.v a)) :=
  (pt_truth ha he).of fun σ H Q ⟨ex, ρ, S, sg, st, sr, h⟩ => by
    rw [evt] at h
    refine goE st sr h fun x ρ1 H1 v S1 g1 st1 sr1 r1 h1 => ?_
    cases e : truth v S1 with
    | none => rw [e] at h1; exact h1.elim
    | some k =>
      rw [e] at h1
      exact ⟨k, truth_ok (B := B.wx ex) si.K st1 r1 e, RG.ok h1 st1 rfl⟩
variable {s t : Tst}
theorem _root_.L2.PW.of {X : Cx} {e : Expr} {t t' : TT} (h : PW X e t) (i : ∀ σ H Q, t' σ H Q → t σ H Q) : PW X e t' := ⟨fun w pins s σ H Q I q => h.run w pins s σ H Q I (i σ H Q q)⟩
theorem nt_and1 (ha : PT X pa (rdT B T Z Φ s)) : PW X (.BoolOp .And [pa] pos) (rdT B T Z Φ s) := pw_and1 ha
theorem nt_or1 (ha : PT X pa (rdT B T Z Φ s)) : PW X (.BoolOp .Or [pa] pos) (rdT B T Z Φ s) := pw_or1 ha
theorem nt_and (ha : PT X pa (rdT B T Z Φ s)) (hb : PW X (.BoolOp .And (pb :: rest) pos) (rdT B T Z Φ t)) : PW X (.BoolOp .And (pa :: pb :: rest) pos) (rdT B T Z Φ (.and s t)) :=
  (pw_and ha hb).of fun σ H Q ⟨ex, ρ, S, sg, st, sr, h⟩ => by
    rw [evt] at h
    refine goT st sr h fun k ρ1 H1 S1 g1 st1 sr1 h1 => ?_
    cases k with
    | true => rw [if_pos rfl]; exact ⟨ex, ρ1, S1, sg, st1, sr1, h1⟩
    | false => rw [if_neg (by decide)]; exact RG.ok h1 st1 rfl
theorem nt_or (ha : PT X pa (rdT B T Z Φ s)) (hb : PW X (.BoolOp .Or (pb :: rest) pos) (rdT B T Z Φ t)) : PW X (.BoolOp .Or (pa :: pb :: rest) pos) (rdT B T Z Φ (.or s t)) :=
  (pw_or ha hb).of fun σ H Q ⟨ex, ρ, S, sg, st, sr, h⟩ => by
    rw [evt] at h
    refine goT st sr h fun k ρ1 H1 S1 g1 st1 sr1 h1 => ?_
    cases k with
    | true => rw [if_pos rfl]; exact RG.ok h1 st1 rfl
    | false => rw [if_neg (by decide)]; exact ⟨ex, ρ1, S1, sg, st1, sr1, h1⟩
theorem nt_not (ha : PT X pa (rdT B T Z Φ s)) : PT X (.UnaryOp .Not pa pos) (rdT B T Z Φ (.not s)) :=
  (pt_not ha).of fun σ H Q ⟨ex, ρ, S, sg, st, sr, h⟩ => by
    rw [evt] at h
    exact goT st sr h fun k ρ1 H1 S1 g1 st1 sr1 h1 => RG.ok h1 st1 rfl
/-! ### tuples, lists, dicts -/
theorem nd_nil : PA X [] (rdEs B T Z Φ .nil) := pa_nil.of fun σ H Q ⟨ex, ρ, S, sg, st, sr, h⟩ => by rw [evs] at h; exact h.ok st .nil
theorem nd_cons {ps : List Expr} {es : Es} (ha : PE X pa (rdE B T Z Φ a)) (hr : PA X ps (rdEs B T Z Φ es)) (hs : starEach (pa :: ps) X.env = (false, eval pa X.env) :: starEach ps X.env) : PA X (pa :: ps) (rdEs B T Z Φ (.cons a es)) :=
  (pa_cons ha hr hs).of fun σ H Q ⟨ex, ρ, S, sg, st, sr, h⟩ => by
    rw [evs] at h
    exact goE st sr h fun x ρ1 H1 v S1 g1 st1 sr1 r1 h1 => goEs st1 sr1 h1 fun xs ρ2 H2 vs S2 g2 st2 sr2 r2 h2 => h2.ok st2 (.cons (r1.mono g2) r2)
theorem nd_star (si : Sit X B Z) {ps : List Expr} {es : Es} {p : Pos} (ha : PE X pa (rdE B T Z Φ a)) (hr : PA X ps (rdEs B T Z Φ es)) : PA X (.Starred pa p :: ps) (rdEs B T Z Φ (.star a es)) :=
  (StX.pa_star ha hr (by rw [starEach])).of fun σ H Q ⟨ex, ρ, S, sg, st, sr, h⟩ => by
    rw [evs] at h
    refine goE st sr h fun x ρ1 H1 v S1 g1 st1 sr1 r1 h1 => ?_
    cases e : items v S1 with
    | none => rw [e] at h1; exact h1.elim
    | some ys =>
      rw [e] at h1
      obtain ⟨p, vs, ex, hq, rs⟩ := items_seq st1 r1 e
      rw [si.K] at hq
      exact ⟨p, vs, ex, hq.symm, goEs st1 sr1 h1 fun xs ρ2 H2 ws S2 g2 st2 sr2 r2 h2 => h2.ok st2 ((rs.mono g2).append r2)⟩
theorem nd_tup {ps : List Expr} {es : Es} {x1} (h : PA X ps (rdEs B T Z Φ es)) : PE X (.Tuple ps x1 pos) (rdE B T Z Φ (.tup es)) :=
  (pe_tup h).of fun σ H Q ⟨ex, ρ, S, sg, st, sr, h⟩ => by
    rw [ev] at h
    refine goEs st sr h fun xs ρ1 H1 vs S1 g1 st1 sr1 r1 h1 => ?_
    split at h1
    · rename_i hl
      have := line_le
      have hl2 := r1.length
      exact ⟨by omega, fun p hp => (h1.okV trivial).tup st1 r1 hp⟩
    · exact h1.elim
theorem nd_lst {ps : List Expr} {es : Es} {m : Bool} (h : PA X ps (rdEs B T Z Φ es)) : PE X (.List ps pos) (rdE B T Z Φ (.lst m es)) :=
  (pe_lst h).of fun σ H Q ⟨ex, ρ, S, sg, st, sr, h⟩ => by
    rw [ev] at h
    refine goEs st sr h fun xs ρ1 H1 vs S1 g1 st1 sr1 r1 h1 => ?_
    split at h1
    · rename_i hl
      have := line_le
      have hl2 := r1.length
      exact ⟨by omega, fun p hp => (h1.okV nx_mkL).mkL st1 r1 hp⟩
    · exact h1.elim
/-! ### subscripts, slices, attributes -/
theorem nd_idx (si : Sit X B Z) (ha : PE X pa (rdE B T Z Φ a)) (hb : PE X pb (rdE B T Z Φ b)) (hs : PlainIx pb) : PE X (.Subscript pa pb pos) (rdE B T Z Φ (.idx a b)) :=
  (pe_ix (IxR.exi fun ex => idx_ok (B := B.wx ex) (T := T) si.K (by have := si.units; omega)) ha hb hs).of fun σ H Q ⟨ex, ρ, S, sg, st, sr, h⟩ => by
    rw [ev] at h
    exact goE st sr h fun x ρ1 H1 v S1 g1 st1 sr1 r1 h1 => goE st1 sr1 h1 fun y ρ2 H2 w S2 g2 st2 sr2 r2 h2 => ⟨ex, ρ2, S2, v, w, st2, r1.mono g2, r2, h2.okV nx_index⟩
theorem nd_dgs (si : Sit X B Z) {k : String} {j p'} (ha : PE X pa (rdE B T Z Φ a)) : PE X (.Subscript pa (.Constant (.str (Str.ofString k)) j p') pos) (rdE B T Z Φ (.dgs a k)) :=
  (pe_ix (IxR.exi fun ex => dgs_ok (B := B.wx ex) (T := T) (k := k) (by have := si.units; omega)) ha pe_str (fun _ _ => rfl)).of fun σ H Q ⟨ex, ρ, S, sg, st, sr, h⟩ => by
    rw [ev] at h
    refine goE st sr h fun x ρ1 H1 v S1 g1 st1 sr1 r1 h1 => ?_
    unfold dgsV at h1
    split at h1
    · split at h1
      · split at h1
        · rename_i _ l _ kvs e1 _ w e2
          exact ⟨ex, ρ1, S1, l, kvs, w, st1, r1, rfl, e1, e2, h1.okV trivial⟩
        · exact h1.elim
      · exact h1.elim
    · exact h1.elim
theorem no_none : PO X none (rdO B T Z Φ .none) := po_none.of fun σ H Q ⟨ex, ρ, S, sg, st, sr, h⟩ => by rw [evo] at h; exact RG.ok h st rfl
theorem no_some (ha : PE X pa (rdE B T Z Φ a)) : PO X (some pa) (rdO B T Z Φ (.some a)) := (po_some ha).of fun σ H Q ⟨ex, ρ, S, sg, st, sr, h⟩ => by
  rw [evo] at h
  refine goE st sr h fun x ρ1 H1 v S1 g1 st1 sr1 r1 h1 => ?_
  unfold okI at h1
  split at h1
  · exact ⟨_, vr_int.mp r1, RG.ok h1 st1 rfl⟩
  · exact h1.elim
theorem nd_slc (si : Sit X B Z) {m : Bool} {lo hi : Option Expr} {l h : Eo} {p2 : Pos} (ha : PE X pa (rdE B T Z Φ a)) (hl : PO X lo (rdO B T Z Φ l)) (hh : PO X hi (rdO B T Z Φ h)) : PE X (.Subscript pa (.Slice lo hi none p2) pos) (rdE B T Z Φ (.slc m a l h)) :=
  (pe_slice (SlR.exi fun ex => slc_ok (B := B.wx ex) (T := T) (m := m) si.K) ha hl hh).of fun σ H Q ⟨ex, ρ, S, sg, st, sr, h⟩ => by
    rw [ev] at h
    exact goE st sr h fun x ρ1 H1 v S1 g1 st1 sr1 r1 h1 => goO st1 sr1 h1 fun l ρ2 H2 S2 g2 st2 sr2 h2 => goO st2 sr2 h2 fun h ρ3 H3 S3 g3 st3 sr3 h3 => ⟨ex, ρ3, S3, v, st3, r1.mono (g2.trans g3), h3.okV nx_slc⟩
end
end Sv
end

section
set_option Elab.async false
set_option linter.all false
set_option maxRecDepth 100000
set_option maxHeartbeats 1000000
namespace Sv
open PySem PySem.Spec PyProof.Rows L2
/-! ### calls of built-ins -/
def biX : Bi → String
  | .len => "len"
  | .abs => "abs"
  | .int => "int"
  | .all => "all"
  | .any => "any"
  | .sum => "sum"
  | .tuple => "tuple"
def blX : Bl → String
  | .list => "list"
  | .sorted => "sorted"
def mmX : Bool → String
  | true => "max"
  | false => "min"
section
variable {X : Cx} {B : Bk} {T : List (Addr × Str)} {Z : XK} {Φ : Phi}
variable {ex ρ : List Addr} {H : Hp} {S : Store} {sg : Sg} {σ : L2.St}
variable {pa pb pc : Expr} {a b c : E} {pos p : Pos} {rest : List Expr}
theorem nd_one (ha : PE X pa (rdE B T Z Φ a)) (hs : starEach [pa] X.env = (false, eval pa X.env) :: starEach [] X.env) : PA X [pa] (rdEs B T Z Φ (.cons a .nil)) := nd_cons ha nd_nil hs
theorem nd_two (ha : PE X pa (rdE B T Z Φ a)) (hb : PE X pb (rdE B T Z Φ b)) (hs : starEach [pa, pb] X.env = (false, eval pa X.env) :: starEach [pb] X.env) (hs2 : starEach [pb] X.env = (false, eval pb X.env) :: starEach [] X.env) : PA X [pa, pb] (rdEs B T Z Φ (.cons a (.cons b .nil))) := nd_cons ha (nd_one hb hs2) hs
theorem one_inv {v : List PV} {xs : List V} (h : VRs B ρ H v xs) (hl : v.length = 1) : ∃ y x, v = [y] ∧ xs = [x] ∧ VR B ρ H y x := by
  match v, hl with
  | [y], _ =>
    obtain ⟨x, r, rfl, h1, h2⟩ := h.uncons
    rw [h2.unnil]
    exact ⟨y, x, rfl, rfl, h1⟩
theorem evs_one {S : Store} {sg : Sg} : evs Φ (.cons a .nil) sg S = (ev Φ a sg S).bind fun x S1 => .ok [x] S1 := by
  rw [evs]
  cases ev Φ a sg S with
  | ok v S1 => simp only [Rs.bind_ok, evs]
  | ex c S1 => rfl
  | no => rfl
theorem evs_two {S : Store} {sg : Sg} : evs Φ (.cons a (.cons b .nil)) sg S = (ev Φ a sg S).bind fun x S1 => (ev Φ b sg S1).bind fun y S2 => .ok [x, y] S2 := by
  rw [evs]
  cases ev Φ a sg S with
  | ok v S1 =>
    simp only [Rs.bind_ok, evs_one]
    cases ev Φ b sg S1 <;> rfl
  | ex c S1 => rfl
  | no => rfl
/-- one argument, then f -/
theorem goA1 {α β : Type} {rel : List Addr → Hp → α → β → Prop} {f : PV → Store → Rs α} {Q : β → Hp → Prop} {R : List V → Hp → Prop} (st : StR (B.wx ex) T ρ H S) (sr : SgR (B.wx ex) ρ H sg σ) (h : RG (B.wx ex) T Z rel ρ H ((ev Φ a sg S).bind f) Q)
    (k : ∀ x ρ1 H1 v S1, Go ρ ρ1 H H1 → StR (B.wx ex) T ρ1 H1 S1 → SgR (B.wx ex) ρ1 H1 sg σ → VR (B.wx ex) ρ1 H1 v x → RG (B.wx ex) T Z rel ρ1 H1 (f v S1) Q → R [x] H1) : rdEs B T Z Φ (.cons a .nil) σ H R := by
  refine ⟨ex, ρ, S, sg, st, sr, ?_⟩
  rw [evs_one]
  cases e : ev Φ a sg S with
  | ok v S1 =>
    rw [e] at h
    intro xs ρ1 H1 g st1 r
    obtain ⟨y, x, hy, rfl, r1⟩ := one_inv r rfl
    cases hy
    exact k x ρ1 H1 v S1 g st1 (sr.mono g) r1 (RG.mono h g)
  | ex c S1 => rw [e] at h; exact h
  | no => rw [e] at h; exact h
theorem goA2 {α β : Type} {rel : List Addr → Hp → α → β → Prop} {f : PV → PV → Store → Rs α} {Q : β → Hp → Prop} {R : List V → Hp → Prop} (st : StR (B.wx ex) T ρ H S) (sr : SgR (B.wx ex) ρ H sg σ) (h : RG (B.wx ex) T Z rel ρ H ((ev Φ a sg S).bind fun x S1 => (ev Φ b sg S1).bind fun y S2 => f x y S2) Q)
    (k : ∀ x y ρ1 H1 v w S1, Go ρ ρ1 H H1 → StR (B.wx ex) T ρ1 H1 S1 → SgR (B.wx ex) ρ1 H1 sg σ → VR (B.wx ex) ρ1 H1 v x → VR (B.wx ex) ρ1 H1 w y → RG (B.wx ex) T Z rel ρ1 H1 (f v w S1) Q → R [x, y] H1) : rdEs B T Z Φ (.cons a (.cons b .nil)) σ H R := by
  refine ⟨ex, ρ, S, sg, st, sr, ?_⟩
  rw [evs_two]
  cases e : ev Φ a sg S with
  | ok v S1 =>
    rw [e] at h
    show RG _ _ _ _ _ _ ((ev Φ b sg S1).bind fun y S2 => .ok [v, y] S2) _
    have h : RG (B.wx ex) T Z rel ρ H ((ev Φ b sg S1).bind fun y S2 => f v y S2) Q := h
    cases e2 : ev Φ b sg S1 with
    | ok w S2 =>
      rw [e2] at h
      intro xs ρ1 H1 g st1 r
      obtain ⟨x, xr, rfl, r1, r2⟩ := r.uncons
      obtain ⟨y, yr, rfl, r3, r4⟩ := r2.uncons
      rw [r4.unnil]
      exact k x y ρ1 H1 v w S2 g st1 (sr.mono g) r1 r3 (RG.mono h g)
    | ex c S1 => rw [e2] at h; exact h
    | no => rw [e2] at h; exact h
  | ex c S1 => rw [e] at h; exact h
  | no => rw [e] at h; exact h
theorem pe_callBi {x : Str} {f : Value} {r : List V → Hp → VK → Prop} {t : TA} {es : List Expr} (hf : (∃ id, f = .builtin id) ∨ ∃ t, f = .type t) (hc : CallR X f r) (hg : Gl X x) (hm : X.mg x = none) (hv : bootBuiltins x = some f) (hn : x ≠ "__name__") (hdb : (x == ("__debug__" : Str)) = false) (ha : PA X (pa :: es) t)
    (he : starEach (pa :: es) X.env = (false, eval pa X.env) :: starEach es X.env) (hpl : (backTo pos (starEach es X.env)).any (·.1) = false) : PE X (.Call (.Name x p) (pa :: es) [] pos) (tCB r t) := by
  rcases hf with ⟨id, rfl⟩ | ⟨t, rfl⟩
  · exact pe_callB hc hg hm hv ha hn hdb he hpl
  · exact pe_callTy hc hg hm hv ha hn hdb he hpl
theorem boot_bi (b : Bi) : bootBuiltins (Str.ofString (biX b)) = some (biN b) := by cases b <;> decide +kernel
theorem boot_bl (b : Bl) : bootBuiltins (Str.ofString (blX b)) = some (blN b) := by cases b <;> decide +kernel
theorem boot_mm (b : Bool) : bootBuiltins (Str.ofString (mmX b)) = some (mmN b) := by cases b <;> decide +kernel
theorem nn_bi (b : Bi) : Str.ofString (biX b) ≠ "__name__" ∧ (Str.ofString (biX b) == ("__debug__" : Str)) = false := by cases b <;> decide +kernel
theorem nn_bl (b : Bl) : Str.ofString (blX b) ≠ "__name__" ∧ (Str.ofString (blX b) == ("__debug__" : Str)) = false := by cases b <;> decide +kernel
theorem nn_mm (b : Bool) : Str.ofString (mmX b) ≠ "__name__" ∧ (Str.ofString (mmX b) == ("__debug__" : Str)) = false := by cases b <;> decide +kernel
theorem nd_bi (si : Sit X B Z) {b : Bi} (hg : Gl X (Str.ofString (biX b))) (hm : X.mg (Str.ofString (biX b)) = none) (ha : PE X pa (rdE B T Z Φ a)) (hs : starEach [pa] X.env = (false, eval pa X.env) :: starEach [] X.env) :
    PE X (.Call (.Name (Str.ofString (biX b)) p) [pa] [] pos) (rdE B T Z Φ (.bi b a)) :=
  (pe_callBi (by cases b <;> simp [biN]) (CallR.exi fun ex => bi_ok (B := B.wx ex) (T := T) (b := b) si.K si.calm) hg hm (boot_bi b) (nn_bi b).1 (nn_bi b).2 (nd_one ha hs) hs rfl).of fun σ H Q ⟨ex, ρ, S, sg, st, sr, h⟩ => by
    rw [ev] at h
    exact goA1 st sr h fun x ρ1 H1 v S1 g1 st1 sr1 r1 h1 => ⟨ex, ρ1, S1, v, x, rfl, st1, r1, h1.okV nx_bi⟩
theorem nd_bl (si : Sit X B Z) {b : Bl} {m : Bool} (hg : Gl X (Str.ofString (blX b))) (hm : X.mg (Str.ofString (blX b)) = none) (ha : PE X pa (rdE B T Z Φ a)) (hs : starEach [pa] X.env = (false, eval pa X.env) :: starEach [] X.env) :
    PE X (.Call (.Name (Str.ofString (blX b)) p) [pa] [] pos) (rdE B T Z Φ (.bl b m a)) :=
  (pe_callBi (by cases b <;> simp [blN]) (CallR.exi fun ex => bl_ok (B := B.wx ex) (T := T) (b := b) (m := m) si.K) hg hm (boot_bl b) (nn_bl b).1 (nn_bl b).2 (nd_one ha hs) hs rfl).of fun σ H Q ⟨ex, ρ, S, sg, st, sr, h⟩ => by
    rw [ev] at h
    exact goA1 st sr h fun x ρ1 H1 v S1 g1 st1 sr1 r1 h1 => ⟨ex, ρ1, S1, v, x, rfl, st1, r1, h1.okV nx_bl⟩
theorem nd_mm (si : Sit X B Z) {m : Bool} (hg : Gl X (Str.ofString (mmX m))) (hm : X.mg (Str.ofString (mmX m)) = none) (ha : PE X pa (rdE B T Z Φ a)) (hb : PE X pb (rdE B T Z Φ b)) (hs : starEach [pa, pb] X.env = (false, eval pa X.env) :: starEach [pb] X.env) (hs2 : starEach [pb] X.env = (false, eval pb X.env) :: starEach [] X.env) :
    PE X (.Call (.Name (Str.ofString (mmX m)) p) [pa, pb] [] pos) (rdE B T Z Φ (.mm m a b)) :=
  (pe_callBi (by cases m <;> simp [mmN]) (CallR.exi fun ex => mm_ok (B := B.wx ex) (T := T) (mx := m) si.calm) hg hm (boot_mm m) (nn_mm m).1 (nn_mm m).2 (nd_two ha hb hs hs2) hs (by rw [hs2]; rfl)).of fun σ H Q ⟨ex, ρ, S, sg, st, sr, h⟩ => by
    rw [ev] at h
    exact goA2 st sr h fun x y ρ1 H1 v w S1 g1 st1 sr1 r1 r2 h1 => ⟨ex, ρ1, S1, v, w, x, y, rfl, st1, r1, r2, h1.okV nx_mm⟩
theorem nx_lrg {m : Bool} {x : PV} {S : Store} : NoEx (lrgV m x S) := by
  unfold lrgV mkL
  repeat' split
  all_goals exact trivial
theorem rng_rgV {B : Bk} {ρ : List Addr} {H : Hp} (j : Int) : VRs B ρ H (rng 0 j) (rgV 0 j) := by
  have h := VRs.of_ints (B := B) (ρ := ρ) (H := H) ((List.range (j - 0).toNat).map fun (k : Nat) => (0 : Int) + k)
  rw [List.map_map, List.map_map] at h
  exact h
theorem nd_lrg (si : Sit X B Z) {m : Bool} {p2 pos2 : Pos} (hg : Gl X "list") (hm : X.mg "list" = none) (hg2 : Gl X "range") (hm2 : X.mg "range" = none) (ha : PE X pa (rdE B T Z Φ a)) (hs : starEach [pa] X.env = (false, eval pa X.env) :: starEach [] X.env) :
    PE X (.Call (.Name "list" p) [.Call (.Name "range" p2) [pa] [] pos2] [] pos) (rdE B T Z Φ (.lrg m a)) :=
  (pe_listRg si.calm hg hm (prg_1 hg2 hm2 ha hs) rfl).of fun σ H Q ⟨ex, ρ, S, sg, st, sr, h⟩ => by
    rw [ev] at h
    refine goE st sr h fun x ρ1 H1 v S1 g1 st1 sr1 r1 h1 => ?_
    have ok := h1.okV nx_lrg
    unfold lrgV at ok
    split at ok
    · rename_i j
      split at ok
      · rename_i hj
        exact ⟨j, vr_int.mp r1, ⟨by omega, by omega, by omega, by omega, by omega⟩, fun q hq => ok.mkL st1 (rng_rgV j) hq⟩
      · exact ok.elim
    · exact ok.elim
/-! ### methods of lists -/
theorem isLst_ok (hK : B.K = X.K) {v : PV} {x : V} (st : StR B T ρ H S) (r : VR B ρ H v x) (h : isLst v S = true) : tyV X.K "list" x H := by
  unfold isLst at h
  split at h
  · rename_i xs e
    obtain ⟨q, vs, rfl, hq, _⟩ := deref_lst st r e
    exact .inl ⟨rfl, vs, .of hq⟩
  · cases h
variable {apos : Pos}
theorem nd_pop (si : Sit X B Z) (ha : PE X pa (rdE B T Z Φ a)) (hb : attributeBase pa "pop" X.env (eval pa X.env) = eval pa X.env) (hl : (apos.endLine == pos.line) = true) : PE X (.Call (.Attribute pa "pop" apos) [] [] pos) (rdE B T Z Φ (.pop a)) :=
  (pe_bm0 PySem.F.plainAttrs_list PySem.F.slot_list_pop (by rfl) (MtR.exi fun ex => (pop_ok (X := X) (B := B.wx ex) (T := T))) ha hb hl).of fun σ H Q ⟨ex, ρ, S, sg, st, sr, h⟩ => by
    rw [ev] at h
    refine goE st sr h fun x ρ1 H1 v S1 g1 st1 sr1 r1 h1 => ⟨?_, ex, ρ1, S1, v, rfl, st1, r1, h1.okV nx_popAt⟩
    have ok := h1.okV nx_popAt
    refine isLst_ok (B := B.wx ex) si.K st1 r1 ?_
    unfold popAt at ok
    unfold isLst deref
    split at ok
    · split at ok
      · rename_i hl; dsimp only
      · exact ok.elim
    · exact ok.elim
theorem nd_m1 {id : String} {name : Str} {r : V → List V → Hp → VK → Prop} {t : TE} (si : Sit X B Z) (slot : Slot "list" name id) (hty : typeOf (.builtin id) = pure (.type "method_descriptor")) (hr : MtR X id r) (ha : PE X pa (rdE B T Z Φ a)) (hb : PE X pb (rdE B T Z Φ b)) (hba : attributeBase pa name X.env (eval pa X.env) = eval pa X.env)
    (hl : (apos.endLine == pos.line) = true) (hs : starEach [pb] X.env = [(false, eval pb X.env)]) (ht : ∀ σ H Q, t σ H Q → rdE B T Z Φ a σ H fun x H1 => tyV X.K "list" x H1 ∧ rdEs B T Z Φ (.cons b .nil) σ H1 fun xs H2 => r x xs H2 Q) : PE X (.Call (.Attribute pa name apos) [pb] [] pos) t :=
  (pe_bm PySem.F.plainAttrs_list slot hty hr ha (nd_one hb hs) hba (by rw [hs]; rfl) hl hs rfl).of ht
theorem lstG_inv {α β : Type} {rel : List Addr → Hp → α → β → Prop} {k : Bool} {r : Rs α} {Q : β → Hp → Prop} (h : RG B T Z rel ρ H (lstG k r) Q) : k = true ∧ RG B T Z rel ρ H r Q := by
  cases k with
  | true => exact ⟨rfl, h⟩
  | false => exact h.elim
theorem nd_popi (si : Sit X B Z) (ha : PE X pa (rdE B T Z Φ a)) (hb : PE X pb (rdE B T Z Φ b)) (hba : attributeBase pa "pop" X.env (eval pa X.env) = eval pa X.env) (hl : (apos.endLine == pos.line) = true) (hs : starEach [pb] X.env = [(false, eval pb X.env)]) :
    PE X (.Call (.Attribute pa "pop" apos) [pb] [] pos) (rdE B T Z Φ (.popi a b)) :=
  nd_m1 si PySem.F.slot_list_pop (by rfl) (MtR.exi fun ex => (popi_ok (X := X) (B := B.wx ex) (T := T))) ha hb hba hl hs fun σ H Q ⟨ex, ρ, S, sg, st, sr, h⟩ => by
    rw [ev] at h
    refine goE st sr h fun x ρ1 H1 v S1 g1 st1 sr1 r1 h1 => ?_
    obtain ⟨h0, h1⟩ := lstG_inv h1
    exact ⟨isLst_ok (B := B.wx ex) si.K st1 r1 h0, goA1 st1 sr1 h1 fun y ρ2 H2 w S2 g2 st2 sr2 r2 h2 => ⟨ex, ρ2, S2, v, w, y, rfl, st2, r1.mono g2, r2, h2.okV nx_popi⟩⟩
end
end Sv
end

section
set_option Elab.async false
set_option linter.all false
set_option maxRecDepth 100000
set_option maxHeartbeats 1000000
namespace Sv
open PySem PySem.Spec PyProof.Rows L2
/-! ### list.index -/
theorem findD_inv {y : PV} : ∀ {xs : List PV} {k i : Nat}, findD y xs k = some i → k ≤ i ∧ (∃ z, xs[i - k]? = some z ∧ peq z y = true) ∧ ∀ m z, m < i - k → xs[m]? = some z → peq z y = false
  | [], k, i, h => by cases h
  | x :: xs, k, i, h => by
    unfold findD at h
    split at h
    · rename_i hp
      cases h
      refine ⟨Nat.le_refl _, ⟨x, by simp, hp⟩, fun m z hm => by omega⟩
    · rename_i hp
      obtain ⟨h1, ⟨z, h2, h3⟩, h4⟩ := findD_inv h
      refine ⟨by omega, ⟨z, ?_, h3⟩, fun m z hm hz => ?_⟩
      · rw [show i - k = (i - (k + 1)) + 1 by omega]; simpa using h2
      · cases m with
        | zero => simp at hz; subst hz; simpa using hp
        | succ m => exact h4 m z (by omega) (by simpa using hz)
theorem toDs_get {xs : List PV} {i : Nat} {z : PV} : xs[i]? = some z → (toDs xs)[i]? = some (toD z) := by
  induction xs generalizing i with
  | nil => intro h; simp at h
  | cons x xs ih =>
    intro h
    rw [toDs]
    cases i with
    | zero => simp at h; subst h; rfl
    | succ i => simpa using ih (by simpa using h)
theorem toDs_get' {xs : List PV} {i : Nat} {d : PyData} (h : (toDs xs)[i]? = some d) : ∃ z, xs[i]? = some z ∧ d = toD z := by
  induction xs generalizing i with
  | nil => rw [toDs] at h; simp at h
  | cons x xs ih =>
    rw [toDs] at h
    cases i with
    | zero => simp at h; exact ⟨x, rfl, h.symm⟩
    | succ i => simpa using ih (by simpa using h)
section
variable {X : Cx} {B : Bk} {T : List (Addr × Str)}
theorem index_ok (hK : B.K = X.K) (hu : X.A.units + 65 < cLine) : MtR X "list.index" (rIndexOf B T) := by
  intro pins s σ H x xs v us Q I rx rxs h
  obtain ⟨ρ, S, vx, vy, y, rfl, st, r1, r2, ok⟩ := h
  unfold indexOf at ok
  split at ok
  · rename_i ys hd
    split at ok
    · rename_i hy
      split at ok
      · rename_i i hi
        obtain ⟨a, vs, ea, hq, rs⟩ := deref_lst st r1 hd
        obtain ⟨_, ⟨z, h2, h3⟩, h4⟩ := findD_inv hi
        rw [Nat.sub_zero] at h2
        have hall := List.all_eq_true.mp hy.2
        have hz := hall z (List.mem_of_getElem? h2)
        have d1 : Dp B.K H (.ref a) (.list (toDs ys)) := .lst (.of hq) (dps_of (k := 16) hall rs)
        have d2 := dp_of (k := 16) hy.1 r2
        rw [hK] at d1 d2
        refine mt_indexD hu pins s σ H x _ v us Q I rx rxs ⟨a, y, _, _, i, toD z, ea, rfl, d1, d2, shaped_list hy.2, shaped_of hy.1 (by omega), toDs_get h2, by rw [eqv_toD hz hy.1]; exact h3, fun m d hm hd => ?_, ok.int st⟩
        obtain ⟨z', e1, rfl⟩ := toDs_get' hd
        rw [eqv_toD (hall z' (List.mem_of_getElem? e1)) hy.1]
        exact h4 m z' (by omega) e1
      · exact ok.elim
    · exact ok.elim
  · exact ok.elim
end
/-! ### isinstance -/
inductive Kd where
  | non | bl | int | str | tup | lst | dct | own (C : Nat) | err (C : Nat)
  deriving DecidableEq
def kdOf (v : PV) (S : Store) : Option Kd := match v with
  | .non => some .non
  | .bl _ => some .bl
  | .int _ => some .int
  | .str _ => some .str
  | .tup _ => some .tup
  | .lst _ => some .lst
  | .fz _ => some .lst
  | .ins C _ => some (.own C)
  | .exc C _ => some (.err C)
  | .loc i => match S[i]? with
    | some (.lst _) => some .lst
    | some (.dct _) => some .dct
    | some (.ins C _) => some (.own C)
    | none => none
  | .clo _ => none
  | .dic => some .dct
def kdT (k : Kd) (t : Ty) : Bool := match k, t with
  | .int, .int => true
  | .bl, .int => true
  | .bl, .bool => true
  | .str, .str => true
  | .lst, .list => true
  | .tup, .tuple => true
  | .dct, .dict => true
  | .own D, .cls C => D == C
  | .err D, .cls C => C == 0 || D == C
  | _, _ => false
theorem isT_kd {x : PV} {S : Store} {t : Ty} {b : Bool} (hx : ∀ i, x = .loc i → ∃ c, S[i]? = some c) (h : isT x S t = some b) : ∃ k, kdOf x S = some k ∧ kdT k t = b := by
  cases x with
  | loc i =>
    obtain ⟨c, e⟩ := hx i rfl
    simp only [kdOf, e]
    cases c <;> cases t <;> simp only [isT, e] at h <;> cases h <;> exact ⟨_, rfl, rfl⟩
  | clo k => cases t <;> cases h
  | _ => cases t <;> cases h <;> exact ⟨_, rfl, rfl⟩
def kdV (B : Bk) : Kd → Option Value
  | .non => some (.type "NoneType")
  | .bl => some (.type "bool")
  | .int => some (.type "int")
  | .str => some (.type "str")
  | .tup => some (.type "tuple")
  | .lst => some (.type "list")
  | .dct => some (.type "dict")
  | .own C => (B.cls C).map .ref
  | .err C => (B.exc C).map .ref
/-- a class in isinstance, as the layer's value and as it is -/
def tyV2 (B : Bk) : Ty → Option (V × Value)
  | .int => some (.ty "int", .type "int")
  | .bool => some (.ty "bool", .type "bool")
  | .str => some (.ty "str", .type "str")
  | .list => some (.ty "list", .type "list")
  | .tuple => some (.ty "tuple", .type "tuple")
  | .dict => some (.ty "dict", .type "dict")
  | .cls C => match B.cls C with
    | some c => some (.ref c, .ref c)
    | none => (B.exc C).map fun c => (.ref c, .ref c)
/-- what the text's classes must be -/
structure ClsAll (B : Bk) : Prop where
  cls : ∀ C c, B.cls C = some c → Cls B.K c ∧ PySem.W.findIn B.K (.ref c) "__class__" = some (some (.builtin "object.__class__")) ∧ PySem.W.mroIn B.K c (.type "object") = some true ∧ (∀ f ∈ B.flds C, NoAttr B.K c f) ∧ (B.flds C).Nodup ∧ (B.flds C).length < 1000
  exc : ∀ C c, B.exc C = some c → ExcC B.K c
  hn : PySem.W.specialIn B.K (.builtin "object.__class__") "__get__" = some (some (.builtin "getset_descriptor.__get__"))
  htk : PySem.W.takesIn B.K (.builtin "object.__class__") = some true
  kit : ∀ k t tv cv, kdV B k = some tv → tyV2 B t = some cv → PySem.W.kitOne B.K tv cv.2 = some (kdT k t)
theorem tyV2_cls {B : Bk} {t : Ty} {cv : V × Value} (h : tyV2 B t = some cv) : ClsV cv.1 cv.2 := by
  cases t with
  | cls C =>
    simp only [tyV2] at h
    cases e : B.cls C with
    | some c => rw [e] at h; cases h; exact .own _
    | none =>
      rw [e] at h
      cases e2 : B.exc C with
      | none => rw [e2] at h; cases h
      | some c => rw [e2] at h; cases h; exact .own _
  | _ => cases h; exact .ty _
section
variable {X : Cx} {B : Bk} {T : List (Addr × Str)} {ρ : List Addr} {H : Hp} {S : Store}
/-- the library's isinstance rules at a value -/
theorem kit_at (hK : B.K = X.K) (ca : ClsAll B) {pins : List (Addr × Obj)} {s : Shared} {σ : L2.St} {vx : PV} {x : V} {u : Value} {k : Kd} (I : Inv X pins σ H s) (rx : RelV x u) (st : StR B T ρ H S) (r : VR B ρ H vx x) (hk : kdOf vx S = some k) :
    ∃ tv, kdV B k = some tv ∧ ∃ P : Heap → Prop, PySem.W.KitX X.K u tv P ∧ P s.heap ∧ u ≠ .builtin "__main__.__loader__#opaque" := by
  cases vx with
  | non => cases hk; rw [vr_non.mp r] at rx; exact ⟨_, rfl, kit_of I rx (.base .non)⟩
  | bl b => cases hk; rw [vr_bl.mp r] at rx; exact ⟨_, rfl, kit_of I rx (.base (.bl _))⟩
  | int i => cases hk; rw [vr_int.mp r] at rx; exact ⟨_, rfl, kit_of I rx (.base (.int _))⟩
  | str z => cases hk; rw [vr_str.mp r] at rx; exact ⟨_, rfl, kit_of I rx (.base (.str _))⟩
  | tup xs => cases hk; obtain ⟨a, vs, rfl, h, _⟩ := vr_tup.mp r; exact ⟨_, rfl, kit_of I rx (.base (.tup h))⟩
  | lst xs => cases hk; obtain ⟨a, vs, rfl, h, _⟩ := vr_lst.mp r; exact ⟨_, rfl, kit_of I rx (.base (.lst h))⟩
  | fz xs =>
    cases hk
    obtain ⟨a, vs, rfl, h, _⟩ := vr_fz.mp r
    rcases h with ⟨h | ⟨o, h⟩, _⟩ | h
    · exact ⟨_, rfl, kit_of I rx (.base (.lst h))⟩
    · exact ⟨_, rfl, kit_of I rx (.base (.frz h))⟩
    · rw [hK] at h
      rcases h H with (z | ⟨o, z⟩) | ⟨o, its, n, z, z2, z3, _⟩
      · exact ⟨_, rfl, kit_of I rx (.base (.lst z))⟩
      · exact ⟨_, rfl, kit_of I rx (.base (.frz z))⟩
      · exact ⟨_, rfl, kit_of I rx (.kList z z2)⟩
  | ins C fs =>
    cases hk
    obtain ⟨a, c, dx, vfs, rfl, hc, h, _⟩ := vr_ins.mp r
    obtain ⟨h1, h2, h3, _⟩ := ca.cls C c hc
    have h4 := ca.hn
    have h5 := ca.htk
    rw [hK] at h1 h2 h3 h4 h5
    exact ⟨.ref c, by simp [kdV, hc], kit_of I rx (.base (.ins h h1 h2 h4 h5 h3))⟩
  | exc C fs =>
    cases hk
    obtain ⟨a, c, rfl, hc, h, _⟩ := vr_exc.mp r
    have q := ca.exc C c hc
    rw [hK] at q
    cases rx
    obtain ⟨⟨oe, ws, h1, h2, h3, h4⟩, _⟩ := (show ObjOk X.prog X.w H s.heap a (ExcO a c) from I.hok a _ h)
    have J : PySem.W.InstAt s.heap a oe c none := by
      obtain ⟨oc, od, oda, osl⟩ := oe
      dsimp only at h2 h3 h4
      subst h2 h3 h4
      exact ⟨h1, rfl, rfl, trivial⟩
    exact ⟨.ref c, by simp [kdV, hc], _, PySem.W.handS_kitx_exc q.hg q.hk q.hs q.hd q.ha q.hn q.ht q.hm, J, fun z => nomatch z⟩
  | loc i =>
    obtain ⟨a, rfl, ha⟩ := vr_loc.mp r
    obtain ⟨c, e, hc⟩ := st.cell ha
    simp only [kdOf, e] at hk
    cases c with
    | lst xs => cases hk; obtain ⟨vs, h, _⟩ := hc; exact ⟨_, rfl, kit_of I rx (.base (.lst h))⟩
    | dct kvs => cases hk; obtain ⟨ps, h, _⟩ := hc; exact ⟨_, rfl, kit_of I rx (.base (.dK h))⟩
    | ins C fs =>
      cases hk
      obtain ⟨c, dx, vfs, h, hcc, _⟩ := hc
      obtain ⟨h1, h2, h3, _⟩ := ca.cls C c hcc
      have h4 := ca.hn
      have h5 := ca.htk
      rw [hK] at h1 h2 h3 h4 h5
      exact ⟨.ref c, by simp [kdV, hcc], kit_of I rx (.base (.ins h h1 h2 h4 h5 h3))⟩
  | clo k => cases hk
  | dic => cases hk; obtain ⟨a, ps, rfl, h, _⟩ := vr_dic.mp r; exact ⟨_, rfl, kit_of I rx (.base (.dK h))⟩
theorem loc_in {vx : PV} {x : V} (st : StR B T ρ H S) (r : VR B ρ H vx x) : ∀ i, vx = .loc i → ∃ c, S[i]? = some c := by
  rintro i rfl
  obtain ⟨a, _, ha⟩ := vr_loc.mp r
  obtain ⟨c, e, _⟩ := st.cell ha
  exact ⟨c, e⟩
def rIs1 (B : Bk) (T : List (Addr × Str)) (t : Ty) : List V → Hp → VK → Prop := fun xs H Q => ∃ ρ S vx x cv b, xs = [x, cv.1] ∧ StR B T ρ H S ∧ VR B ρ H vx x ∧ tyV2 B t = some cv ∧ isT vx S t = some b ∧ Q (.bl b) H
theorem is1_ok (hK : B.K = X.K) (ca : ClsAll B) {t : Ty} : CallR X (.builtin "isinstance") (rIs1 B T t) := by
  intro pins s σ H xs us Q I r h
  obtain ⟨ρ, S, vx, x, cv, b, rfl, st, r1, ht, hb, q⟩ := h
  obtain ⟨u1, u2, rfl, q1, q2⟩ := vals2 r
  have e2 := (tyV2_cls ht).eq q2
  subst e2
  obtain ⟨k, hk, e⟩ := isT_kd (loc_in st r1) hb
  obtain ⟨tv, htv, P, Z, p, hx⟩ := kit_at hK ca I q1 st r1 hk
  have kit := ca.kit k t tv cv htv ht
  rw [hK, e] at kit
  exact PySem.W.kia_one Z I.kIn p kit hx fun tk => ⟨.bl b, H, I.tok tk, rfl, q⟩
def tys (B : Bk) : List Ty → Option (List (V × Value))
  | [] => some []
  | t :: ts => match tyV2 B t, tys B ts with
    | some c, some cs => some (c :: cs)
    | _, _ => none
theorem tys_cls : ∀ {ts : List Ty} {cs : List (V × Value)}, tys B ts = some cs → Paired ClsV (cs.map (·.1)) (cs.map (·.2))
  | [], cs, h => by cases h; exact .nil
  | t :: ts, cs, h => by
    unfold tys at h
    split at h
    · rename_i c cs' h1 h2
      cases h
      exact .cons (tyV2_cls h1) (tys_cls h2)
    · cases h
theorem kitAny_of (ca : ClsAll B) {k : Kd} {tv : Value} (htv : kdV B k = some tv) : ∀ {ts : List Ty} {cs : List (V × Value)}, tys B ts = some cs → PySem.W.kitAny B.K tv (cs.map fun c => c.2) = some (ts.any (kdT k))
  | [], cs, h => by cases h; rfl
  | t :: ts, cs, h => by
    unfold tys at h
    split at h
    · rename_i c cs' h1 h2
      cases h
      have h3 := ca.kit k t tv c htv h1
      have h4 := kitAny_of ca htv h2
      show (match PySem.W.kitOne B.K tv c.2 with
        | some true => some true
        | some false => PySem.W.kitAny B.K tv (cs'.map fun (c : V × Value) => c.2)
        | none => none) = _
      rw [h3, List.any_cons]
      cases kdT k t with
      | true => rfl
      | false => exact h4
    · cases h
theorem isTs_kd {x : PV} (hx : ∀ i, x = .loc i → ∃ c, S[i]? = some c) : ∀ {ts : List Ty} {b : Bool}, isTs x S ts = some b → ts ≠ [] → ∃ k, kdOf x S = some k ∧ ts.any (kdT k) = b
  | [], b, h, hn => absurd rfl hn
  | t :: ts, b, h, _ => by
    unfold isTs at h
    split at h
    · rename_i b1 b2 h1 h2
      cases h
      obtain ⟨k, hk, e⟩ := isT_kd hx h1
      refine ⟨k, hk, ?_⟩
      rw [List.any_cons, e]
      cases ts with
      | nil => cases h2; rfl
      | cons t' ts' =>
        obtain ⟨k', hk', e'⟩ := isTs_kd hx h2 (by simp)
        rw [hk] at hk'
        cases hk'
        rw [e']
    · cases h
def rIsN (B : Bk) (T : List (Addr × Str)) (ts : List Ty) : List V → Hp → VK → Prop := fun xs H Q => ∃ ρ S vx x tp cs b, xs = [x, .ref tp] ∧ H tp = some (.tup (cs.map (·.1))) ∧ StR B T ρ H S ∧ VR B ρ H vx x ∧ tys B ts = some cs ∧ isTs vx S ts = some b ∧ Q (.bl b) H
theorem isN_ok (hK : B.K = X.K) (ca : ClsAll B) {ts : List Ty} (hn : ts ≠ []) : CallR X (.builtin "isinstance") (rIsN B T ts) := by
  intro pins s σ H xs us Q I r h
  obtain ⟨ρ, S, vx, x, tp, cs, b, rfl, htp, st, r1, ht, hb, q⟩ := h
  obtain ⟨u1, u2, rfl, q1, q2⟩ := vals2 r
  cases (show u2 = Value.ref tp from q2)
  obtain ⟨k, hk, e⟩ := isTs_kd (loc_in st r1) hb hn
  obtain ⟨tv, htv, P, Z, p, hx⟩ := kit_at hK ca I q1 st r1 hk
  have kit := kitAny_of ca htv ht
  rw [hK, e] at kit
  obtain ⟨_, its, rv, o, h1, h2, n, h3⟩ := (show ObjOk X.prog X.w H s.heap tp (.tup (cs.map (·.1))) from I.hok tp _ htp)
  have e3 := ClsV.all (tys_cls ht) rv
  subst e3
  obtain ⟨oc, od, dt, sl⟩ := o
  simp only at h2 h3
  subst h2 h3
  exact PySem.W.kia_tup Z I.kIn p h1 kit hx fun tk => ⟨.bl b, H, I.tok tk, rfl, q⟩
end
end Sv
end

section
set_option Elab.async false
set_option linter.all false
set_option maxRecDepth 100000
set_option maxHeartbeats 1000000
namespace Sv
open PySem PySem.Spec PyProof.Rows L2
section
variable {X : Cx} {B : Bk} {T : List (Addr × Str)} {Z : XK} {Φ : Phi}
variable {ex ρ : List Addr} {H : Hp} {S : Store} {sg : Sg} {σ : L2.St}
variable {pa pb pc : Expr} {a b c : E} {pos p apos : Pos} {rest : List Expr}
theorem nd_index (si : Sit X B Z) (ha : PE X pa (rdE B T Z Φ a)) (hb : PE X pb (rdE B T Z Φ b)) (hba : attributeBase pa "index" X.env (eval pa X.env) = eval pa X.env) (hl : (apos.endLine == pos.line) = true) (hs : starEach [pb] X.env = [(false, eval pb X.env)]) :
    PE X (.Call (.Attribute pa "index" apos) [pb] [] pos) (rdE B T Z Φ (.index a b)) :=
  nd_m1 si PySem.F.slot_list_index (by rfl) (MtR.exi fun ex => (index_ok (X := X) (B := B.wx ex) (T := T) si.K si.units)) ha hb hba hl hs fun σ H Q ⟨ex, ρ, S, sg, st, sr, h⟩ => by
    rw [ev] at h
    refine goE st sr h fun x ρ1 H1 v S1 g1 st1 sr1 r1 h1 => ?_
    obtain ⟨h0, h1⟩ := lstG_inv h1
    exact ⟨isLst_ok (B := B.wx ex) si.K st1 r1 h0, goA1 st1 sr1 h1 fun y ρ2 H2 w S2 g2 st2 sr2 r2 h2 => ⟨ex, ρ2, S2, v, w, y, rfl, st2, r1.mono g2, r2, h2.okV nx_indexOf⟩⟩
/-- what every text's classes are, whatever is being made -/
theorem ClsAll.wx (ca : ClsAll B) (ex : List Addr) : ClsAll (B.wx ex) := ⟨ca.cls, ca.exc, ca.hn, ca.htk, fun k t tv cv h1 h2 => ca.kit k t tv cv (by rw [← h1]; cases k <;> rfl) (by rw [← h2]; cases t <;> rfl)⟩
theorem okB_inv {o : Option Bool} {Q : VK} (h : RG B T Z (VR B) ρ H (okB o S) Q) (st : StR B T ρ H S) : ∃ b, o = some b ∧ Q (.bl b) H := by
  cases o with
  | none => exact h.elim
  | some b => exact ⟨b, rfl, RG.bl h st⟩
/-- isinstance(e, T) -/
theorem nd_isi1 (si : Sit X B Z) (ca : ClsAll B) {t : Ty} {cv : V × Value} (ht : tyV2 B t = some cv) (hg : Gl X "isinstance") (hm : X.mg "isinstance" = none) (ha : PE X pa (rdE B T Z Φ a)) (hb : PE X pb (tC cv.1))
    (hs : starEach [pa, pb] X.env = (false, eval pa X.env) :: starEach [pb] X.env) (hs2 : starEach [pb] X.env = [(false, eval pb X.env)]) : PE X (.Call (.Name "isinstance" p) [pa, pb] [] pos) (rdE B T Z Φ (.isi a [t])) :=
  (pe_callB (CallR.exi fun ex => is1_ok (B := B.wx ex) (T := T) (t := t) si.K (ca.wx ex)) hg hm boot_isinstance (pa_cons ha (pa_cons hb pa_nil hs2) hs) (by decide) (by decide) hs (by rw [hs2]; rfl)).of fun σ H Q ⟨ex, ρ, S, sg, st, sr, h⟩ => by
    rw [ev] at h
    refine goE st sr h fun x ρ1 H1 v S1 g1 st1 sr1 r1 h1 => ?_
    obtain ⟨b, hb, q⟩ := okB_inv h1 st1
    have hb' : isT v S1 t = some b := by
      unfold isTs at hb
      split at hb
      · rename_i k1 k2 e1 e2
        cases e2
        rw [e1]
        simpa using hb
      · cases hb
    exact ⟨ex, ρ1, S1, v, x, cv, b, rfl, st1, r1, by rw [← ht]; cases t <;> rfl, hb', q⟩
theorem pa_tys {cs : List V} : ∀ {es : List Expr}, (Paired (fun c e => PE X e (tC c)) cs es) → (∀ e ∈ es, ∀ r, starEach (e :: r) X.env = (false, eval e X.env) :: starEach r X.env) → PA X es (fun σ H Q => Q cs H)
  | _, .nil, _ => pa_nil
  | _, .cons h r, hs => (pa_cons h (pa_tys r fun e he => hs e (List.mem_cons_of_mem _ he)) (hs _ List.mem_cons_self _)).of fun σ H Q q => q
/-- isinstance(e, (T, ..)) -/
theorem nd_isiN (si : Sit X B Z) (ca : ClsAll B) {ts : List Ty} {cs : List (V × Value)} {es : List Expr} {k pt} (hn : ts ≠ []) (ht : tys B ts = some cs) (hl : cs.length ≤ 1000) (hg : Gl X "isinstance") (hm : X.mg "isinstance" = none) (ha : PE X pa (rdE B T Z Φ a)) (hb : PA X es (fun σ H Q => Q (cs.map (·.1)) H))
    (hs : starEach [pa, .Tuple es k pt] X.env = (false, eval pa X.env) :: starEach [.Tuple es k pt] X.env) : PE X (.Call (.Name "isinstance" p) [pa, .Tuple es k pt] [] pos) (rdE B T Z Φ (.isi a ts)) :=
  (pe_callB (CallR.exi fun ex => isN_ok (B := B.wx ex) (T := T) (ts := ts) si.K (ca.wx ex) hn) hg hm boot_isinstance (pa_cons ha (pa_cons (pe_tup hb) pa_nil (by simp only [starEach])) hs) (by decide) (by decide) hs (by rfl)).of fun σ H Q ⟨ex, ρ, S, sg, st, sr, h⟩ => by
    rw [ev] at h
    refine goE st sr h fun x ρ1 H1 v S1 g1 st1 sr1 r1 h1 => ?_
    obtain ⟨b, hb, q⟩ := okB_inv (RG.mono h1 (Go.refl _ _)) st1
    refine ⟨by rw [List.length_map, sizeLine_eq]; omega, fun tp htp => ?_⟩
    obtain ⟨st2, g2, _⟩ := st1.fresh (o := .tup (cs.map (·.1))) htp
    have hx : tys (B.wx ex) ts = some cs := by
      rw [← ht]
      have : ∀ ts, tys (B.wx ex) ts = tys B ts := fun ts => by
        induction ts with
        | nil => rfl
        | cons t ts ih =>
          unfold tys
          rw [ih]
          have e : tyV2 (B.wx ex) t = tyV2 B t := by cases t <;> rfl
          rw [e]
      exact this ts
    rw [hb] at h1
    exact ⟨ex, ρ1, S1, v, x, tp, cs, b, rfl, upd_same, st2, r1.mono g2, hx, hb, RG.bl (RG.mono h1 g2) st2⟩
/-! ### attributes -/
theorem lookup_of {fs : List (Str × V)} {names : List Str} {f : Str} {v : V} : ∀ {j : Nat}, fs.map (·.1) = names → names.Nodup → names[j]? = some f → (fs.map (·.2))[j]? = some v → fs.lookup f = some v := by
  induction fs generalizing names with
  | nil => intro j _ _ _ h; simp at h
  | cons p fs ih =>
    intro j hn nd h1 h2
    subst hn
    rw [List.map_cons, List.nodup_cons] at nd
    obtain ⟨k, w⟩ := p
    cases j with
    | zero =>
      simp only [List.map_cons, List.getElem?_cons_zero, Option.some.injEq] at h1 h2
      subst h1 h2
      simp [List.lookup]
    | succ j =>
      simp only [List.map_cons, List.getElem?_cons_succ] at h1 h2
      have hne : (f == k) = false := by
        refine beq_eq_false_iff_ne.mpr fun e => nd.1 ?_
        subst e
        exact List.mem_of_getElem? h1
      rw [List.lookup_cons, hne]
      exact ih rfl nd.2 h1 h2
/-- the name f is where the table says -/
def FldAt (B : Bk) (f : Str) (ps : List (Nat × Nat)) : Prop := ∀ C j, fpos ps C = some j → ∀ c, B.cls C = some c → (B.flds C)[j]? = some f
theorem nd_att (si : Sit X B Z) (ca : ClsAll B) {f : Str} {ps : List (Nat × Nat)} (hf : FldAt B f ps) (ha : PE X pa (rdE B T Z Φ a)) (hb : attributeBase pa f X.env (eval pa X.env) = eval pa X.env) : PE X (.Attribute pa f pos) (rdE B T Z Φ (.att a ps)) :=
  (pe_fld ha hb).of fun σ H Q ⟨ex, ρ, S, sg, st, sr, h⟩ => by
    rw [ev] at h
    refine goE st sr h fun x ρ1 H1 v S1 g1 st1 sr1 r1 h1 => ?_
    have key : ∀ {p : Addr} {C : Nat} {c dx : Addr} {vfs : List (Str × V)} {fs : List PV}, x = .ref p → B.cls C = some c → H1 p = some (.ins c dx vfs) → vfs.map (·.1) = (B.flds C).take fs.length → VRs (B.wx ex) ρ1 H1 fs (vfs.map (·.2)) → RG (B.wx ex) T Z (VR (B.wx ex)) ρ1 H1 (fAt (fpos ps C) fs S1) Q →
        ∃ a C dx fs v, x = .ref a ∧ H1 a = some (.ins C dx fs) ∧ Cls X.K C ∧ NoAttr X.K C f ∧ fs.lookup f = some v ∧ Q v H1 := fun {p C c dx vfs fs} ex hc hp hn hr hq => by
      cases ep : fpos ps C with
      | none => rw [ep] at hq; exact hq.elim
      | some j =>
        rw [ep] at hq
        cases hw : fs[j]? with
        | none => simp only [fAt, hw] at hq; exact hq.elim
        | some w =>
          simp only [fAt, hw] at hq
          obtain ⟨u, hu, ru⟩ := hr.get hw
          obtain ⟨k1, _, _, k4, k5, _⟩ := ca.cls C c hc
          have hj : j < fs.length := (List.getElem?_eq_some_iff.mp hw).1
          have hjn : (B.flds C)[j]? = some f := hf C j ep c hc
          rw [si.K] at k1 k4
          refine ⟨p, c, dx, vfs, u, ex, hp, k1, k4 f (List.mem_of_getElem? hjn), lookup_of (j := j) hn (k5.sublist (List.take_sublist _ _)) (by rw [List.getElem?_take_of_lt hj]; exact hjn) hu, hq.ok st1 ru⟩
    unfold attr at h1
    split at h1
    · obtain ⟨p, c, dx, vfs, e, hc, hp, _, hn, hr⟩ := vr_ins.mp r1
      exact key e hc hp hn hr h1
    · obtain ⟨_, _, _, _, _, _, e⟩ := vr_exc.mp r1
      subst e
      unfold fAt at h1
      split at h1
      · simp only [List.getElem?_nil] at h1
        exact h1.elim
      · exact h1.elim
    · split at h1
      · rename_i e
        obtain ⟨p, ep, hp⟩ := vr_loc.mp r1
        obtain ⟨c, dx, vfs, q1, q2, q3, q4, q5⟩ := st1.cl _ p _ hp e
        exact key ep q2 q1 q3 q5 h1
      · exact h1.elim
    · exact h1.elim
end
end Sv
end

section
set_option Elab.async false
set_option linter.all false
set_option maxRecDepth 100000
set_option maxHeartbeats 1000000
/-! things that are being made: dict displays, comprehensions -/
namespace Sv
open PySem PySem.Spec PyProof.Rows L2
section
variable {B : Bk} {T : List (Addr × Str)} {Z : XK} {ex ρ ρ2 : List Addr} {H H2 : Hp} {S S2 : Store} {p : Addr} {o o' : HO}
theorem out_res {a : Addr} : out (B.wx (p :: ex)) ρ a ↔ out (B.wx ex) ρ a ∧ a ≠ p := by
  show (a ∉ ρ ∧ a ∉ p :: ex) ↔ (a ∉ ρ ∧ a ∉ ex) ∧ a ≠ p
  rw [List.mem_cons, not_or]
  constructor
  · rintro ⟨h1, h2, h3⟩; exact ⟨⟨h1, h3⟩, h2⟩
  · rintro ⟨⟨h1, h3⟩, h2⟩; exact ⟨h1, h2, h3⟩
theorem CR.turn {B' : Bk} {ρ' : List Addr} {H' : Hp} {a : Addr} {c : Cl} (hK : B'.K = B.K) (hc : B'.cls = B.cls) (hf : B'.flds = B.flds) (he : B'.exc = B.exc) (hl : B'.lam = B.lam) (k : ∀ a o, out B ρ a → H a = some o → H' a = some o ∧ out B' ρ' a) (l : ∀ (i : Nat) a, ρ[i]? = some a → ρ'[i]? = some a) (ha : H' a = H a) (h : CR B ρ H a c) : CR B' ρ' H' a c := by
  cases c with
  | lst xs => obtain ⟨vs, e, r⟩ := h; exact ⟨vs, ha.trans e, r.turn hK hc hf he hl k l⟩
  | dct kvs => obtain ⟨ps, e, q, r⟩ := h; exact ⟨ps, ha.trans e, q, r.turn hK hc hf he hl k l⟩
  | ins C fs => obtain ⟨c, dx, vfs, e, q, q2, q3, r⟩ := h; exact ⟨c, dx, vfs, ha.trans e, by rw [hc]; exact q, by rw [hf]; exact q2, by rw [hf]; exact q3, r.turn hK hc hf he hl k l⟩
/-- a thing is begun -/
theorem res_vr (hp : H p = none) {x : PV} {v : V} (r : VR (B.wx ex) ρ H x v) : VR (B.wx (p :: ex)) ρ (upd H p o) x v :=
  r.turn (B := B.wx ex) (B' := B.wx (p :: ex)) rfl rfl rfl rfl rfl (fun a u ha e => by
    have hne : a ≠ p := fun z => by rw [z, hp] at e; cases e
    exact ⟨by rw [upd_ne hne]; exact e, out_res.mpr ⟨ha, hne⟩⟩) fun _ _ h => h
theorem res_st (st : StR (B.wx ex) T ρ H S) (hp : H p = none) (ho : (∀ ps, o ≠ .tbl ps) ∧ ∀ φ, o ≠ .ext φ) : StR (B.wx (p :: ex)) T ρ (upd H p o) S := by
  have ne : ∀ a u, H a = some u → a ≠ p := fun a u e z => by rw [z, hp] at e; cases e
  refine ⟨st.len, st.nd, fun i a c e1 e2 => ?_, st.tabs.ext fun b u q => by rw [upd_ne (ne b u q)]; exact q, fun a ha => ?_, fun a ha => ?_⟩
  · obtain ⟨u, hu, _⟩ := (st.cl i a c e1 e2).stands
    exact (st.cl i a c e1 e2).turn (B := B.wx ex) (B' := B.wx (p :: ex)) rfl rfl rfl rfl rfl (fun a u ha e => ⟨by rw [upd_ne (ne a u e)]; exact e, out_res.mpr ⟨ha, ne a u e⟩⟩) (fun _ _ h => h) (upd_ne (ne a u hu))
  · show a ∉ p :: ex
    obtain ⟨u, hu, _⟩ := st.there ha
    rw [List.mem_cons, not_or]
    exact ⟨ne a u hu, st.ex a ha⟩
  · rcases List.mem_cons.mp ha with rfl | ha
    · exact ⟨o, upd_same, ho⟩
    · obtain ⟨u, hu, hd⟩ := st.exs a ha
      exact ⟨u, by rw [upd_ne (ne a u hu)]; exact hu, hd⟩
theorem res_sg {sg : Sg} {σ : L2.St} (h : SgR (B.wx ex) ρ H sg σ) (hp : H p = none) : SgR (B.wx (p :: ex)) ρ (upd H p o) sg σ := ⟨h.1, fun i v e => let ⟨x, e1, r⟩ := h.2 i v e; ⟨x, e1, res_vr hp r⟩⟩
/-- .. given up -/
theorem unres_vr {x : PV} {v : V} (r : VR (B.wx (p :: ex)) ρ H x v) : VR (B.wx ex) ρ H x v := r.turn (B := B.wx (p :: ex)) (B' := B.wx ex) rfl rfl rfl rfl rfl (fun a u ha e => ⟨e, (out_res.mp ha).1⟩) fun _ _ h => h
theorem unres_st (st : StR (B.wx (p :: ex)) T ρ H S) : StR (B.wx ex) T ρ H S :=
  ⟨st.len, st.nd, fun i a c e1 e2 => (st.cl i a c e1 e2).turn (B := B.wx (p :: ex)) (B' := B.wx ex) rfl rfl rfl rfl rfl (fun a u ha e => ⟨e, (out_res.mp ha).1⟩) (fun _ _ h => h) rfl, st.tabs, fun a ha z => st.ex a ha (List.mem_cons_of_mem _ z), fun a ha => st.exs a (List.mem_cons_of_mem _ ha)⟩
theorem res_go {ρ' : List Addr} {H' : Hp} (hp : H p = none) (g : Go ρ ρ' (upd H p o) H') : Go ρ ρ' H H' := by
  have ne : ∀ a u, H a = some u → a ≠ p := fun a u e z => by rw [z, hp] at e; cases e
  refine ⟨g.ext, fun a ha => ?_, fun a u e hn ht => g.keep a u (by rw [upd_ne (ne a u e)]; exact e) hn ht, fun a e => ?_⟩
  · rcases g.new a ha with h | h
    · exact .inl h
    · by_cases hx : a = p
      · subst hx; exact .inr hp
      · rw [upd_ne hx] at h; exact .inr h
  · cases q : H a with
    | none => exact absurd q e
    | some u => exact g.live a (by rw [upd_ne (ne a u q), q]; simp)
theorem tabs_upd (t : LamX.Tabs T H) (hp : H p = some o) (ho : (∀ ps, o ≠ .tbl ps) ∧ ∀ φ, o ≠ .ext φ) : LamX.Tabs T (upd H p o') := fun q hq => by
  obtain ⟨ps, q1, q2, q3⟩ := t q hq
  have np : q.1 ≠ p := fun z => by rw [z, hp] at q1; exact ho.1 ps (Option.some.inj q1)
  refine ⟨ps, by rw [upd_ne np]; exact q1, q2, fun pos cv hcv => ?_⟩
  obtain ⟨c', k1, k2⟩ := q3 pos cv hcv
  refine ⟨c', k1, ?_⟩
  rw [upd_ne (fun z => ?_)]
  · exact k2
  · rw [z, hp] at k2
    unfold LamX.CodeO at k2
    exact ho.2 _ (Option.some.inj k2)
theorem done_vr {ρ' : List Addr} {x : PV} {v : V} (hr : ∀ a ∈ ρ', a ∈ ρ ∨ a = p) (l : ∀ (i : Nat) a, ρ[i]? = some a → ρ'[i]? = some a) (r : VR (B.wx (p :: ex)) ρ H x v) : VR (B.wx ex) ρ' (upd H p o') x v :=
  r.turn (B := B.wx (p :: ex)) (B' := B.wx ex) rfl rfl rfl rfl rfl (fun a u ha e => by
    obtain ⟨h1, h2⟩ := out_res.mp ha
    exact ⟨by rw [upd_ne h2]; exact e, fun z => (hr a z).elim h1.1 h2, h1.2⟩) l
theorem done_vrs {ρ' : List Addr} {x : List PV} {v : List V} (hr : ∀ a ∈ ρ', a ∈ ρ ∨ a = p) (l : ∀ (i : Nat) a, ρ[i]? = some a → ρ'[i]? = some a) (r : VRs (B.wx (p :: ex)) ρ H x v) : VRs (B.wx ex) ρ' (upd H p o') x v :=
  r.turn (B := B.wx (p :: ex)) (B' := B.wx ex) rfl rfl rfl rfl rfl (fun a u ha e => by
    obtain ⟨h1, h2⟩ := out_res.mp ha
    exact ⟨by rw [upd_ne h2]; exact e, fun z => (hr a z).elim h1.1 h2, h1.2⟩) l
theorem done_cr {ρ' : List Addr} {a : Addr} {c : Cl} (hr : ∀ a ∈ ρ', a ∈ ρ ∨ a = p) (l : ∀ (i : Nat) a, ρ[i]? = some a → ρ'[i]? = some a) (ha : a ≠ p) (r : CR (B.wx (p :: ex)) ρ H a c) : CR (B.wx ex) ρ' (upd H p o') a c :=
  r.turn (B := B.wx (p :: ex)) (B' := B.wx ex) rfl rfl rfl rfl rfl (fun a u ha e => by
    obtain ⟨h1, h2⟩ := out_res.mp ha
    exact ⟨by rw [upd_ne h2]; exact e, fun z => (hr a z).elim h1.1 h2, h1.2⟩) l (upd_ne ha)
theorem exs_upd (st : StR (B.wx (p :: ex)) T ρ H S) (hpe : p ∉ ex) : ∀ a ∈ ex, ∃ u, upd H p o' a = some u ∧ (∀ ps, u ≠ .tbl ps) ∧ ∀ φ, u ≠ .ext φ := fun a ha => by
  have np : a ≠ p := fun z => hpe (by rw [← z]; exact ha)
  rw [upd_ne np]
  exact st.exs a (List.mem_cons_of_mem _ ha)
/-- what is being made is finished, as a value -/
theorem done_val (st : StR (B.wx (p :: ex)) T ρ H S) (hpe : p ∉ ex) (hp : H p = some o) (ho : (∀ ps, o ≠ .tbl ps) ∧ ∀ φ, o ≠ .ext φ) : StR (B.wx ex) T ρ (upd H p o') S ∧ out (B.wx ex) ρ p := by
  have np : p ∉ ρ := fun h => st.ex p h List.mem_cons_self
  refine ⟨⟨st.len, st.nd, fun i a c e1 e2 => done_cr (fun a ha => .inl ha) (fun _ _ h => h) (fun z => np (z ▸ List.mem_of_getElem? e1)) (st.cl i a c e1 e2), tabs_upd st.tabs hp ho, fun a ha z => st.ex a ha (List.mem_cons_of_mem _ z), exs_upd st hpe⟩, np, hpe⟩
/-- .. as a place of the store -/
theorem done_st {c : Cl} (st : StR (B.wx (p :: ex)) T ρ H S) (hpe : p ∉ ex) (hp : H p = some o) (ho : (∀ ps, o ≠ .tbl ps) ∧ ∀ φ, o ≠ .ext φ) (hc : CR (B.wx ex) (ρ ++ [p]) (upd H p o') p c) : StR (B.wx ex) T (ρ ++ [p]) (upd H p o') (S ++ [c]) := by
  have np : p ∉ ρ := fun h => st.ex p h List.mem_cons_self
  have hr : ∀ a ∈ ρ ++ [p], a ∈ ρ ∨ a = p := fun a ha => by simpa using ha
  have hl : ∀ (i : Nat) a, ρ[i]? = some a → (ρ ++ [p])[i]? = some a := fun i a h => by
    rw [List.getElem?_append_left (List.getElem?_eq_some_iff.mp h).1]; exact h
  refine ⟨by simp [st.len], by
    rw [List.nodup_append]
    exact ⟨st.nd, by simp, fun x hx y hy => by
      have : y = p := by simpa using hy
      subst this
      exact fun z => np (z ▸ hx)⟩, fun i a d e1 e2 => ?_, tabs_upd st.tabs hp ho, fun a ha z => ?_, exs_upd st hpe⟩
  · by_cases hj : i < S.length
    · rw [List.getElem?_append_left hj] at e2
      rw [List.getElem?_append_left (by rw [st.len]; exact hj)] at e1
      exact done_cr hr hl (fun z => np (z ▸ List.mem_of_getElem? e1)) (st.cl i a d e1 e2)
    · have hj2 : i = S.length := by
        have := (List.getElem?_eq_some_iff.mp e2).1
        simp at this; omega
      subst hj2
      have hlen := st.len
      rw [← hlen] at e1
      simp at e1
      simp at e2
      subst e1; subst e2
      exact hc
  · rcases hr a ha with h | h
    · exact st.ex a h (List.mem_cons_of_mem _ z)
    · exact hpe (h ▸ z)
theorem done_go {ρ' ρ'' : List Addr} {H' : Hp} (hp : H p = none) (g : Go ρ ρ' (upd H p o) H') (hx : ρ' <+: ρ'') (hr : ∀ a ∈ ρ'', a ∈ ρ' ∨ a = p) : Go ρ ρ'' H (upd H' p o') := by
  have g0 := res_go hp g
  have ne : ∀ a u, H a = some u → a ≠ p := fun a u e z => by rw [z, hp] at e; cases e
  refine ⟨g0.ext.trans hx, fun a ha => ?_, fun a u e hn ht => by rw [upd_ne (ne a u e)]; exact g0.keep a u e hn ht, fun a e => ?_⟩
  · rcases hr a ha with h | h
    · exact g0.new a h
    · exact .inr (by rw [h]; exact hp)
  · by_cases h : a = p
    · rw [h, upd_same]; simp
    · rw [upd_ne h]; exact g0.live a e
end
/-! ### dict displays -/
section
variable {X : Cx} {B : Bk} {T : List (Addr × Str)} {Z : XK} {Φ : Phi}
variable {pa pb pc : Expr} {a b c : E} {pos : Pos}
def esLen : Es → Nat
  | .nil => 0
  | .cons _ r => esLen r + 1
  | .star _ r => esLen r + 1
/-- a written key -/
inductive KeyE : DK → Expr → Prop where
  | i (k : Int) (j p) : KeyE (.i k) (.Constant (.int k) j p)
  | s (k : String) (j p) : KeyE (.s k) (.Constant (.str (Str.ofString k)) j p)
theorem KeyE.pe {k : DK} {e : Expr} (h : KeyE k e) : PE X e (tC (kV (kD k))) := by
  cases h with
  | i k j p => exact pe_int
  | s k j p => exact pe_str
/-- the pairs of a display -/
def PPd (X : Cx) (B : Bk) (T : List (Addr × Str)) (Z : XK) (Φ : Phi) (pos : Pos) (keys : List (Option Expr)) (vals : List Expr) (ks : List DK) (es : Es) : Prop :=
  ∃ trs, PPs X pos keys vals trs ∧ ks.length = vals.length ∧ keys.length = vals.length ∧ keys.all (·.isSome) = true ∧ (keys = [] → es = .nil) ∧
    ∀ σ H (R : List (V × V) → Hp → Prop), rdEs B T Z Φ es σ H (fun vs H' => vs.length = ks.length → R (((ks.map kD).zip vs).map fun kv => (kV kv.1, kv.2)) H') → tPairs trs σ H R
theorem ppd_nil : PPd X B T Z Φ pos [] [] [] .nil := ⟨[], pps_nil, rfl, rfl, rfl, fun _ => rfl, fun σ H R ⟨ex, ρ, S, sg, st, sr, h⟩ => by
  rw [evs] at h
  exact h.ok st .nil rfl⟩
theorem ppd_cons {keys : List (Option Expr)} {vals : List Expr} {ks : List DK} {es : Es} {k : DK} {ke : Expr} (hk : KeyE k ke) (ha : PE X pa (rdE B T Z Φ a)) (hr : PPd X B T Z Φ pos keys vals ks es) : PPd X B T Z Φ pos (some ke :: keys) (pa :: vals) (k :: ks) (.cons a es) := by
  obtain ⟨trs, h1, h2, h3, h4, h6, h5⟩ := hr
  refine ⟨_, pps_cons hk.pe ha h1, by simp [h2], by simp [h3], by simp [h4], by simp, fun σ H R ⟨ex, ρ, S, sg, st, sr, h⟩ => ?_⟩
  rw [evs] at h
  refine goE st sr h fun x ρ1 H1 v S1 g1 st1 sr1 r1 h1 => h5 σ H1 _ ?_
  exact goEs st1 sr1 h1 fun xs ρ2 H2 vs S2 g2 st2 sr2 r2 h2 hl => by
    have := RG.ok h2 st2 (.cons (r1.mono g2) r2) (by simp [hl])
    simpa using this
theorem nd_dct {keys : List (Option Expr)} {vals : List Expr} {ks : List DK} {es : Es} (h : PPd X B T Z Φ pos keys vals ks es) (h15 : keys.length ≤ 15) : PE X (.Dict keys vals pos) (rdE B T Z Φ (.dct ks es)) := by
  obtain ⟨trs, h1, h2, h3, h4, h6, h5⟩ := h
  have fin : ∀ {ex ρ ρ1 : List Addr} {H H1 : Hp} {S1 : Store} {p : Addr} {Q : VK} {vs : List PV} {us : List V}, H p = none → p ∉ ex → Go ρ ρ1 (upd H p (.dK [])) H1 → StR (B.wx (p :: ex)) T ρ1 H1 S1 → VRs (B.wx (p :: ex)) ρ1 H1 vs us → H1 p = some (.dK []) → us.length = ks.length →
      RG (B.wx ex) T Z (VR (B.wx ex)) ρ H (.ok (.loc S1.length) (S1 ++ [.dct (dkmerge (ks.zip vs))])) Q → Q (.ref p) (upd H1 p (.dK (mergeK [] ((ks.map kD).zip us)))) := fun {ex ρ ρ1 H H1 S1 p Q vs us} hp hpe g st r hH hl q => by
    have hr : ∀ a ∈ ρ1 ++ [p], a ∈ ρ1 ∨ a = p := fun a ha => by simpa using ha
    have hpre : ∀ (i : Nat) a, ρ1[i]? = some a → (ρ1 ++ [p])[i]? = some a := fun i a h => by
      rw [List.getElem?_append_left (List.getElem?_eq_some_iff.mp h).1]; exact h
    have merge : ∀ {ρ' : List Addr} {H' : Hp} {l : List DK} {vs : List PV} {us : List V} {kvs : List (DK × PV)} {ps : List (Key × V)}, VRs (B.wx ex) ρ' H' vs us → ps.map (·.1) = kvs.map (fun p => kD p.1) → VRs (B.wx ex) ρ' H' (kvs.map (·.2)) (ps.map (·.2)) →
        (mergeK ps ((l.map kD).zip us)).map (·.1) = ((l.zip vs).foldl (fun acc p => dkput p.1 p.2 acc) kvs).map (fun p => kD p.1) ∧ VRs (B.wx ex) ρ' H' (((l.zip vs).foldl (fun acc p => dkput p.1 p.2 acc) kvs).map (·.2)) ((mergeK ps ((l.map kD).zip us)).map (·.2)) := fun {ρ' H' l} => by
      induction l with
      | nil => intro vs us kvs ps _ h1 h2; exact ⟨h1, h2⟩
      | cons k l ih =>
        intro vs us kvs ps h h1 h2
        cases vs with
        | nil => rw [h.unnil]; exact ⟨h1, h2⟩
        | cons v vs =>
          obtain ⟨u, us', rfl, q1, q2⟩ := h.uncons
          obtain ⟨e1, e2⟩ := VRs.dkput (k := k) q1 h1 h2
          exact ih q2 e1 e2
    have rs := done_vrs (o' := .dK (mergeK [] ((ks.map kD).zip us))) hr hpre r
    obtain ⟨m1, m2⟩ := merge (l := ks) (kvs := []) (ps := []) rs rfl .nil
    have st' := done_st (o' := .dK (mergeK [] ((ks.map kD).zip us))) (c := .dct (dkmerge (ks.zip vs))) st hpe hH ⟨(fun _ z => by cases z), fun _ z => by cases z⟩ ⟨_, upd_same, m1, m2⟩
    refine q _ _ _ (done_go hp g (List.prefix_append _ _) hr) st' (vr_loc.mpr ⟨p, rfl, ?_⟩)
    rw [← st.len]; simp
  by_cases h0 : keys = []
  · subst h0
    have hv : vals = [] := List.eq_nil_of_length_eq_zero h3.symm
    subst hv
    have hks : ks = [] := List.eq_nil_of_length_eq_zero h2
    subst hks
    refine pe_dnewK.of fun σ H Q ⟨ex, ρ, S, sg, st, sr, h⟩ p hp => ?_
    rw [ev] at h
    have hes := h6 rfl
    subst hes
    rw [evs] at h
    have hpe : p ∉ ex := fun z => by obtain ⟨u, hu, _⟩ := st.exs p z; rw [hp] at hu; cases hu
    have := fin (us := []) (vs := []) hp hpe (Go.refl _ _) (res_st st hp ⟨(fun _ z => by cases z), fun _ z => by cases z⟩) .nil upd_same rfl h
    rw [upd_upd] at this
    exact this
  · refine (pe_disp h1 h4 h3 h0 h15).of fun σ H Q ⟨ex, ρ, S, sg, st, sr, h⟩ p hp => ?_
    rw [ev] at h
    have hpe : p ∉ ex := fun z => by obtain ⟨u, hu, _⟩ := st.exs p z; rw [hp] at hu; cases hu
    refine h5 _ _ _ ⟨p :: ex, ρ, S, sg, res_st st hp ⟨(fun _ z => by cases z), fun _ z => by cases z⟩, res_sg sr hp, ?_⟩
    cases e : evs Φ es sg S with
    | ok vs S1 =>
      rw [e] at h
      intro us ρ1 H1 g st1 r hl
      have hH : H1 p = some (.dK []) := g.keep p _ upd_same (fun z => by obtain ⟨o, e, _⟩ := st.there z; rw [hp] at e; cases e) (fun _ z => by cases z)
      refine ⟨hH, (ks.map kD).zip us, rfl, ?_, fin hp hpe g st1 r hH hl h⟩
      have : ((ks.map kD).zip us).length ≤ ks.length := by rw [List.length_zip, List.length_map]; omega
      omega
    | ex c S1 =>
      rw [e] at h
      intro ρ' H' C k g st1 e1 e2
      exact h ρ' H' C k (res_go hp g) (unres_st st1) e1 e2
    | no => rw [e] at h; exact h
end
end Sv
end

section
set_option Elab.async false
set_option linter.all false
set_option maxRecDepth 100000
set_option maxHeartbeats 2000000
/-! what loops walk: enumerate and zip over lists and tuples in any mixture -/
namespace PySem
open Sem (wp)
theorem meets_enumerate_newB1 {v : Value} {o : Obj} {H : Heap → Prop} (B : Begins v o H) :
    Meets (Builtin.«enumerate.__new__» ⟨[.type "enumerate", v], []⟩) (fun _ R s => H s.heap ∧
      R (.ok (.ret (.ref (s.heap.push o).objs.size))) { s with heap := (s.heap.push o).push { cls := .type "enumerate", data := .fields #[.none, .bool false, .ref s.heap.objs.size, rawInt 0, .none, .none] } }) :=
  .of_wp fun prog w A R s h => by
    obtain ⟨hp, g, d, tk, os⟩ := s; obtain ⟨h1, h⟩ := h
    have hsub := sub_enumerate
    have q1 : ∀ {A' : Around} {E : Value → Shared → Prop} {Q : Value → Shared → Prop}, Q (.ref hp.objs.size) ⟨hp.push o, g, d, tk, os⟩ → wpAny (model prog w) A' (pyIter v) Q E ⟨hp, g, d, tk, os⟩ :=
      fun q => B.iter prog w _ _ ⟨hp, g, d, tk, os⟩ _ h1 q
    wp_walk using q1
    refine wpAny_stack_any fun st => wpAny_pure ?_
    split
    · rename_i c _ _ _ _ _
      cases (c == Value.type "enumerate")
      · wp_walk using q1
        exact ⟨_, rfl, h⟩
      · wp_walk using q1
        exact ⟨_, rfl, h⟩
    · wp_walk using q1
      exact ⟨_, rfl, h⟩
theorem enum_begins1 {prog : Program} {w : World} {A : Around} {E : Value → Shared → Prop} {s : Shared} {v : Value} {o : Obj} {H : Heap → Prop} {Q : Value → Shared → Prop} (B : Begins v o H) (h1 : H s.heap)
    (h : ∀ h', IsEnum h' (s.heap.objs.size + 1) s.heap.objs.size 0 .none → h'.get? s.heap.objs.size = some o → h'.objs.size = s.heap.objs.size + 2 →
      (∀ b o, s.heap.get? b = some o → h'.get? b = some o) → Q (.ref (s.heap.objs.size + 1)) { s with heap := h' }) :
    wpAny (model prog w) A (call (.type "enumerate") [v]) Q E s := by
  refine callType_new F.called_enumerate (by decide) (F.typeCall_enumerate_1 _) (F.newCall_enumerate_1 _) (fun obj => F.args_object_init_2 obj _) F.entry_enumerate_new
    (meets_enumerate_newB1 B) ⟨h1, ?_⟩
  have hz : (s.heap.push o).objs.size = s.heap.objs.size + 1 := Heap.size_push ..
  show _ ∧ _
  rw [hz]
  have he : IsEnum ((s.heap.push o).push { cls := .type "enumerate", data := .fields #[.none, .bool false, .ref s.heap.objs.size, rawInt 0, .none, .none] }) (s.heap.objs.size + 1) s.heap.objs.size 0 .none := by
    have := Heap.get?_push_size (s.heap.push o) (o := { cls := .type "enumerate", data := .fields #[.none, .bool false, .ref s.heap.objs.size, rawInt 0, .none, .none] }) rfl
    rw [hz] at this; exact this
  refine ⟨⟨_, he, rfl⟩, h _ he (Heap.get?_push_of_some _ (Heap.get?_push_size _ B.free)) (by rw [Heap.size_push, hz]) fun b o x => Heap.get?_push_of_some _ (Heap.get?_push_of_some _ x)⟩
end PySem
namespace Sv
open PySem PySem.Spec PyProof.Rows L2
/-- a list, a tuple -/
def SqK (k : Bool) (K : PySem.W.Frag) (H : Hp) (a : Addr) (xs : List V) : Prop := match k with
  | true => SqL K H a xs
  | false => SqT K H a xs
def SeqIs (k : Bool) (h : Heap) (a : Addr) (vs : Array Value) : Prop := match k with
  | true => h.IsList a vs
  | false => h.IsTuple a vs
def IterK (k : Bool) (h : Heap) (it a : Addr) (i : Nat) : Prop := match k with
  | true => h.IsListIter it a i
  | false => h.IsTupleIter it a i
def objK (k : Bool) (a : Addr) : Obj := match k with
  | true => { cls := .type "list_iterator", data := .fields #[.ref a, .int 0 0] }
  | false => { cls := .type "tuple_iterator", data := .fields #[.ref a, .int 0 0] }
theorem drawsK {prog : Program} {w : World} {A : Around} (k : Bool) (hh : A.handled = none) (it a : Addr) (hne : a ≠ it) (items : Array Value) :
    Draws prog w A it [it, a] items.size (fun i v => items[i]? = some v) (fun i h => IterK k h it a i ∧ SeqIs k h a items) := by
  cases k with
  | true => exact Draws.list hh it a hne items
  | false => exact Draws.tuple hh it a hne items
theorem beginsK (k : Bool) (a : Addr) (items : Array Value) : Begins (.ref a) (objK k a) fun h => SeqIs k h a items := by
  cases k with
  | true => exact begins_list a items
  | false => exact begins_tuple a items
theorem iterK_of {k : Bool} {h : Heap} {it a : Addr} (e : h.get? it = some (objK k a)) : IterK k h it a 0 := by
  cases k with
  | true => exact ⟨_, e, rfl, rfl⟩
  | false => exact ⟨_, e, rfl, rfl⟩
theorem iterK_obj {k : Bool} {h : Heap} {it a : Addr} {i : Nat} (e : IterK k h it a i) : ∃ o, h.get? it = some o ∧ ∀ v, o.data ≠ .cell v := by
  cases k with
  | true => obtain ⟨o, e1, _, d1⟩ := e; exact ⟨o, e1, fun v q => by rw [d1] at q; cases q⟩
  | false => obtain ⟨o, e1, _, d1⟩ := e; exact ⟨o, e1, fun v q => by rw [d1] at q; cases q⟩
theorem iterK_at {k : Bool} {h h' : Heap} {it a : Addr} {i : Nat} (e : IterK k h it a i) (q : ∀ o, h.get? it = some o → h'.get? it = some o) : IterK k h' it a i := by
  cases k with
  | true => exact Heap.IsListIter.at e q
  | false => exact Heap.IsTupleIter.at e q
section
variable {X : Cx} {pins : List (Addr × Obj)} {σ : L2.St} {H : Hp} {s : Shared}
theorem _root_.L2.Inv.sqk {k : Bool} {a : Addr} {xs : List V} (I : L2.Inv X pins σ H s) (h : SqK k X.K H a xs) : ∃ its : List Value, Vals xs its ∧ SeqIs k s.heap a its.toArray ∧ a < s.heap.objs.size := by
  cases k with
  | true => obtain ⟨its, r, p, _⟩ := I.list h; exact ⟨its, r, p.isList, p.lt⟩
  | false => obtain ⟨its, r, p, _⟩ := I.tuple h; exact ⟨its, r, p, let ⟨o, e, _⟩ := p; Heap.lt_size e⟩
theorem _root_.L2.Inv.sqk_inj {k : Bool} {a : Addr} {xs ys : List V} (I : L2.Inv X pins σ H s) (h : SqK k X.K H a xs) (h' : SqK k X.K H a ys) : xs = ys := by
  cases k with
  | true => exact I.list_inj h h'
  | false => exact I.tuple_inj h h'
theorem seqIs_size {k : Bool} {h : Heap} {a : Addr} {vs ws : Array Value} (e : SeqIs k h a vs) (e' : SeqIs k h a ws) : vs = ws := by
  cases k with
  | true =>
    obtain ⟨o, h1, _, n, h3⟩ := e
    obtain ⟨o', h1', _, n', h3'⟩ := e'
    rw [h1] at h1'; cases h1'
    rw [h3] at h3'; cases h3'; rfl
  | false =>
    obtain ⟨o, h1, _, n, h3⟩ := e
    obtain ⟨o', h1', _, n', h3'⟩ := e'
    rw [h1] at h1'; cases h1'
    rw [h3] at h3'; cases h3'; rfl
end
theorem seqIs_ne {k : Bool} {h : Heap} {a b : Addr} {vs : Array Value} {o : Obj} (e : SeqIs k h a vs) (q : h.get? b = some o) (hc : o.cls ≠ .type "list") (hc2 : o.cls ≠ .type "tuple" ∨ (k = false → a = b → False)) : a ≠ b := by
  rintro rfl
  cases k with
  | true =>
    obtain ⟨o', h1, h2, _⟩ := e
    rw [q] at h1; cases h1
    exact hc h2
  | false =>
    obtain ⟨o', h1, h2, _⟩ := e
    rw [q] at h1; cases h1
    rcases hc2 with z | z
    · exact z h2
    · exact z rfl rfl
theorem seqIs_iter {k k' : Bool} {h : Heap} {a b it : Addr} {i : Nat} {vs : Array Value} (e : SeqIs k h a vs) (q : IterK k' h it b i) : a ≠ it := by
  cases k' with
  | true => obtain ⟨o, e1, c1, d1⟩ := q; exact seqIs_ne e e1 (by rw [c1]; decide) (.inl (by rw [c1]; decide))
  | false => obtain ⟨o, e1, c1, d1⟩ := q; exact seqIs_ne e e1 (by rw [c1]; decide) (.inl (by rw [c1]; decide))
/-! ### enumerate -/
def IteK (k : Bool) (K : PySem.W.Frag) (a : Addr) : L2.It :=
  ⟨fun i H => ∃ (xs : List V) (x : V), SqK k K H a xs ∧ xs[i]? = some x, fun i H v H' => ∃ T x, v = .ref T ∧ H T = none ∧ H' = upd H T (.tup [.int (i : Nat), x]) ∧ ∀ xs, SqK k K H a xs → xs[i]? = some x, fun i H => ∃ xs : List V, SqK k K H a xs ∧ xs.length = i⟩
theorem turn_enumK {P : Program} {w : World} {K : PySem.W.Frag} {elts : List Expr} {kk : Nat} {tpos : Pos} (k : Bool) (a e it : Addr) :
    Turn P w K (.Tuple elts kk tpos) (IteK k K a) [e, it] e (fun i h => (∃ old, IsEnum h e it ((i : Nat) : Int) old) ∧ IterK k h it a i ∧ e ≠ it) where
  mem := by simp
  obj := fun i h st b hb => by
    obtain ⟨⟨old, he⟩, hit, _⟩ := st
    have e' : b = e ∨ b = it := by simpa using hb
    rcases e' with z | z
    · rw [z]; exact ⟨_, he, fun v q => nomatch q⟩
    · rw [z]; exact iterK_obj hit
  keep := fun i h h' st k => let ⟨⟨old, he⟩, hi, hne⟩ := st; ⟨⟨old, k e (by simp) _ he⟩, iterK_at hi fun o q => k it (by simp) o q, hne⟩
  item := by
    intro X hP hw hK hc i pins s σ H E I hf st hg
    subst hP hw hK
    obtain ⟨⟨old, he⟩, hit, hne⟩ := st
    obtain ⟨xs, x, hq, hx⟩ := hg
    obtain ⟨its, rv, p, hal⟩ := I.sqk hq
    obtain ⟨u, hu, ru⟩ := rv.get hx
    have hai : a ≠ it := seqIs_iter p hit
    have hae : a ≠ e := seqIs_ne p he (show Value.type "enumerate" ≠ Value.type "list" by decide) (.inl (show Value.type "enumerate" ≠ Value.type "tuple" by decide))
    have D := drawsK (prog := X.prog) (w := X.w) (A := X.A.in1) k (I.ok.hd hc) it a hai its.toArray
    have W := WalksT.enumerateD D e hne (by simp only [List.mem_cons, List.not_mem_nil, or_false, not_or]; exact ⟨hne, fun z => hae z.symm⟩) (by simp)
    have hi : i < its.toArray.size := by
      have := (List.getElem?_eq_some_iff.mp hu).1
      simpa using this
    refine W.item i s _ E hi ⟨⟨old, he⟩, hit, p⟩ fun T vals h' tk hv hT hT2 hm hk => ?_
    refine ⟨_, rfl, W.go elts kk tpos i T _ _ E hm fun h'' st'' hk2 => ?_⟩
    obtain ⟨t, x1, hx1, rfl⟩ := hv
    have hx1' : its.toArray[i]? = some x1 := hx1
    have eu : x1 = u := by
      rw [show its.toArray[i]? = its[i]? by simp, hu] at hx1'
      exact (Option.some.inj hx1').symm
    subst eu
    have hTw := W.apart _ _ _ hm
    obtain ⟨oT, g1, g2, g3, g4⟩ := hT2
    have hTT : h''.get? T = some oT := hk2 T oT hTw g1
    have new : ObjOk X.prog X.w (upd H T (.tup [.int (i : Nat), x])) h'' T (.tup [.int (i : Nat), x]) :=
      ⟨by show 2 ≤ sizeLine; decide, [.int i t, x1], .cons ⟨_, rfl⟩ (.cons ru .nil), ⟨oT, hTT, g2, g3, g4⟩⟩
    have I1 : L2.Inv X pins σ (upd H T (.tup [.int (i : Nat), x])) { s with heap := h'', toks := tk } :=
      I.turnedNew (ch := [e, it]) (fun b ob hb q => hk2 b ob (by simpa using hb) (hk b ob (by simpa using hb) q)) hf hT new
    obtain ⟨⟨old', he'⟩, hit', _⟩ := st''
    refine ⟨.ref T, _, I1, rfl, ⟨T, x, rfl, I.hok.fresh hT, rfl, fun ys hy => by rw [I.sqk_inj hy hq]; exact hx⟩, ⟨⟨old', he'⟩, hit', hne⟩, fun b hb => ?_⟩
    have hbT : b ≠ T := fun z => hTw (z ▸ hb)
    rw [upd_ne hbT]
    exact (hf b hb).1
  done := by
    intro X hP hw hK hc i pins s σ H E I hf st hg
    subst hP hw hK
    obtain ⟨⟨old, he⟩, hit, hne⟩ := st
    obtain ⟨xs, hq, hx⟩ := hg
    obtain ⟨its, rv, p, hal⟩ := I.sqk hq
    have hai : a ≠ it := seqIs_iter p hit
    have hae : a ≠ e := seqIs_ne p he (show Value.type "enumerate" ≠ Value.type "list" by decide) (.inl (show Value.type "enumerate" ≠ Value.type "tuple" by decide))
    have D := drawsK (prog := X.prog) (w := X.w) (A := X.A.in1) k (I.ok.hd hc) it a hai its.toArray
    have W := WalksT.enumerateD D e hne (by simp only [List.mem_cons, List.not_mem_nil, or_false, not_or]; exact ⟨hne, fun z => hae z.symm⟩) (by simp)
    have hn : its.toArray.size = i := by rw [← hx, rv.length]; simp
    refine W.done s _ E (by rw [hn]; exact ⟨⟨old, he⟩, hit, p⟩) fun h' tk hk => ⟨rfl, I.turnedL (t' := tk) (ch := [e, it]) (fun b o hb q => hk b o (by simpa using hb) q) hf⟩
  self := fun A i s Q E st h => let ⟨⟨_, he⟩, _⟩ := st; wpAny_pyIter_enum he h
def iEnumK (K : PySem.W.Frag) (ta : TA) : TI := fun σ H R => ta σ H fun vs H1 => ∃ k a xs, vs = [.ref a] ∧ SqK k K H1 a xs ∧ R (IteK k K a) H1
theorem boot_enumerate : bootBuiltins "enumerate" = some (.type "enumerate") := by decide +kernel
theorem pi_enumK {X : Cx} {e : Expr} {ta : TA} {p pos tpos : Pos} {elts : List Expr} {kk : Nat} (hg : Gl X "enumerate") (hm : X.mg "enumerate" = none) (ha : PA X [e] ta) (hs : starEach [e] X.env = [(false, eval e X.env)]) :
    PI X (.Tuple elts kk tpos) (.Call (.Name "enumerate" p) [e] [] pos) (iEnumK X.K ta) := by
  refine ⟨fun pins s σ H R I h => ?_⟩
  refine Call_ (ld_blt I hg hm boot_enumerate (PyProof.Rows.callWith_type1 (thn (ha.run pos pins s σ H _ I h) fun us s1 ⟨vs, H1, I1, r1, q1⟩ => ?_) hs rfl))
  obtain ⟨k, a, xs, ex, hq, q⟩ := q1
  subst ex
  cases r1 with
  | cons r rr =>
    cases rr
    cases r
    obtain ⟨its, rv, p', hal⟩ := I1.sqk hq
    refine enum_begins1 (beginsK k a its.toArray) p' fun h' he hit hsz hk => wpAny_pyIter_enum he ?_
    have I2 : L2.Inv X pins σ H1 { s1 with heap := h' } := I1.kept (t' := s1.toks) hk
    refine ⟨s1.heap.objs.size + 1, [s1.heap.objs.size + 1, s1.heap.objs.size], _, _, H1, rfl, I2, turn_enumK k a (s1.heap.objs.size + 1) s1.heap.objs.size, ⟨⟨.none, he⟩, iterK_of hit, Nat.succ_ne_self _⟩, fun b hb => ?_, q⟩
    have e' : b = s1.heap.objs.size + 1 ∨ b = s1.heap.objs.size := by simpa using hb
    have hle : s1.heap.objs.size ≤ b := by
      rcases e' with z | z
      · rw [z]; exact Nat.le_add_right _ _
      · rw [z]; exact Nat.le_refl _
    exact I1.fpOk hle (I1.hok.fresh hle)
/-! ### zip -/
def ItzK (k1 k2 : Bool) (K : PySem.W.Frag) (a b : Addr) : L2.It :=
  ⟨fun i H => ∃ (xs ys : List V) (x y : V), SqK k1 K H a xs ∧ SqK k2 K H b ys ∧ xs[i]? = some x ∧ ys[i]? = some y,
    fun i H v H' => ∃ T x y, v = .ref T ∧ H T = none ∧ H' = upd H T (.tup [x, y]) ∧ (∀ xs, SqK k1 K H a xs → xs[i]? = some x) ∧ ∀ ys, SqK k2 K H b ys → ys[i]? = some y,
    fun i H => ∃ xs ys : List V, SqK k1 K H a xs ∧ SqK k2 K H b ys ∧ min xs.length ys.length = i⟩
theorem turn_zipK {P : Program} {w : World} {K : PySem.W.Frag} {elts : List Expr} {kk : Nat} {tpos : Pos} {k1 k2 : Bool} {a b z TI TO i1 i2 : Addr} (S : ZipSep2 z TI TO i1 i2 [i1, a] [i2, b]) (ha : a ≠ i1) (hb : b ≠ i2) :
    Turn P w K (.Tuple elts kk tpos) (ItzK k1 k2 K a b) [z, TI, TO, i1, i2] z (fun i h => IsZip h z TI TO .none ∧ IsTupOf2 h TI (.ref i1) (.ref i2) ∧ (∃ x y, IsTupOf2 h TO x y) ∧ IterK k1 h i1 a i ∧ IterK k2 h i2 b i) where
  mem := by simp
  obj := fun i h st c hc => by
    obtain ⟨hz, hTI, ⟨x, y, hTO⟩, h1, h2⟩ := st
    have e' : c = z ∨ c = TI ∨ c = TO ∨ c = i1 ∨ c = i2 := by simpa using hc
    rcases e' with q | q | q | q | q
    · rw [q]; exact ⟨_, hz, fun v q => nomatch q⟩
    · rw [q]; exact ⟨_, hTI, fun v q => nomatch q⟩
    · rw [q]; exact ⟨_, hTO, fun v q => nomatch q⟩
    · rw [q]; exact iterK_obj h1
    · rw [q]; exact iterK_obj h2
  keep := fun i h h' st k => by
    obtain ⟨hz, hTI, ⟨x, y, hTO⟩, h1, h2⟩ := st
    exact ⟨k z (by simp) _ hz, k TI (by simp) _ hTI, ⟨x, y, k TO (by simp) _ hTO⟩, iterK_at h1 fun o q => k i1 (by simp) o q, iterK_at h2 fun o q => k i2 (by simp) o q⟩
  item := by
    intro X hP hw hK hc i pins s σ H E I hf st hg
    subst hP hw hK
    obtain ⟨hz, hTI, hTO, h1, h2⟩ := st
    obtain ⟨xs, ys, x, y, hqx, hqy, hx, hy⟩ := hg
    obtain ⟨its, rv, p1, _⟩ := I.sqk hqx
    obtain ⟨its2, rv2, p2, _⟩ := I.sqk hqy
    obtain ⟨u, hu, ru⟩ := rv.get hx
    obtain ⟨u2, hu2, ru2⟩ := rv2.get hy
    have D1 := drawsK (prog := X.prog) (w := X.w) (A := X.A.in1) k1 (I.ok.hd hc) i1 a ha its.toArray
    have D2 := drawsK (prog := X.prog) (w := X.w) (A := X.A.in1) k2 (I.ok.hd hc) i2 b hb its2.toArray
    have W := WalksT.zipD2 S D1 D2
    have l1 := (List.getElem?_eq_some_iff.mp hu).1
    have l2 := (List.getElem?_eq_some_iff.mp hu2).1
    refine W.item i s _ E (by simp; omega) ⟨hz, hTI, hTO, ⟨h1, p1⟩, h2, p2⟩ fun T vals h' tk hv hT hT2 hm hk => ?_
    refine ⟨_, rfl, W.go elts kk tpos i T _ _ E hm fun h'' st'' hk2 => ?_⟩
    obtain ⟨x1, x2, hx1, hx2, rfl⟩ := hv
    have hx1' : its.toArray[i]? = some x1 := hx1
    have hx2' : its2.toArray[i]? = some x2 := hx2
    have eu : x1 = u := by
      rw [show its.toArray[i]? = its[i]? by simp, hu] at hx1'
      exact (Option.some.inj hx1').symm
    have eu2 : x2 = u2 := by
      rw [show its2.toArray[i]? = its2[i]? by simp, hu2] at hx2'
      exact (Option.some.inj hx2').symm
    subst eu eu2
    have hTw := W.apart _ _ _ hm
    obtain ⟨oT, g1, g2, g3, g4⟩ := hT2
    have hTT : h''.get? T = some oT := hk2 T oT hTw g1
    have new : ObjOk X.prog X.w (upd H T (.tup [x, y])) h'' T (.tup [x, y]) :=
      ⟨by show 2 ≤ sizeLine; decide, [x1, x2], .cons ru (.cons ru2 .nil), ⟨oT, hTT, g2, g3, g4⟩⟩
    have hin : ∀ c, c ∉ [z, TI, TO, i1, i2] → c ∉ [z, TO, i1, i2] := fun c hc hc' => hc (by
      have : c = z ∨ c = TO ∨ c = i1 ∨ c = i2 := by simpa using hc'
      rcases this with rfl | rfl | rfl | rfl <;> simp)
    have I1 : L2.Inv X pins σ (upd H T (.tup [x, y])) { s with heap := h'', toks := tk } :=
      I.turnedNew (ch := [z, TI, TO, i1, i2]) (fun c ob hc q => hk2 c ob (hin c hc) (hk c ob (hin c hc) q)) hf hT new
    obtain ⟨z1, z2, z3, z4, z5⟩ := st''
    refine ⟨.ref T, _, I1, rfl, ⟨T, x, y, rfl, I.hok.fresh hT, rfl, fun ys hy => by rw [I.sqk_inj hy hqx]; exact hx, fun zs hzs => by rw [I.sqk_inj hzs hqy]; exact hy⟩, ⟨z1, z2, z3, z4.1, z5.1⟩, fun c hcm => ?_⟩
    have hbT : c ≠ T := fun q => by
      have q0 := I.hok.fresh hT
      have hlt : ∃ o, s.heap.get? c = some o := by
        obtain ⟨x0, y0, hTO⟩ := hTO
        have e' : c = z ∨ c = TI ∨ c = TO ∨ c = i1 ∨ c = i2 := by simpa using hcm
        rcases e' with q | q | q | q | q
        · rw [q]; exact ⟨_, hz⟩
        · rw [q]; exact ⟨_, hTI⟩
        · rw [q]; exact ⟨_, hTO⟩
        · rw [q]; obtain ⟨o, e, _⟩ := iterK_obj h1; exact ⟨o, e⟩
        · rw [q]; obtain ⟨o, e, _⟩ := iterK_obj h2; exact ⟨o, e⟩
      obtain ⟨o, e⟩ := hlt
      have := Heap.lt_size e
      rw [q] at this
      exact absurd (Nat.lt_of_lt_of_le this hT) (Nat.lt_irrefl _)
    rw [upd_ne hbT]
    exact (hf c hcm).1
  done := by
    intro X hP hw hK hc i pins s σ H E I hf st hg
    subst hP hw hK
    obtain ⟨hz, hTI, hTO, h1, h2⟩ := st
    obtain ⟨xs, ys, hqx, hqy, hx⟩ := hg
    obtain ⟨its, rv, p1, _⟩ := I.sqk hqx
    obtain ⟨its2, rv2, p2, _⟩ := I.sqk hqy
    have D1 := drawsK (prog := X.prog) (w := X.w) (A := X.A.in1) k1 (I.ok.hd hc) i1 a ha its.toArray
    have D2 := drawsK (prog := X.prog) (w := X.w) (A := X.A.in1) k2 (I.ok.hd hc) i2 b hb its2.toArray
    have W := WalksT.zipD2 S D1 D2
    have hn : min its.toArray.size its2.toArray.size = i := by rw [← hx, rv.length, rv2.length]; simp
    have hin : ∀ c, c ∉ [z, TI, TO, i1, i2] → c ∉ [z, TO, i1, i2] := fun c hc hc' => hc (by
      have : c = z ∨ c = TO ∨ c = i1 ∨ c = i2 := by simpa using hc'
      rcases this with rfl | rfl | rfl | rfl <;> simp)
    refine W.done s _ E (by rw [hn]; exact ⟨hz, hTI, hTO, ⟨h1, p1⟩, h2, p2⟩) fun h' tk hk => ⟨rfl, I.turnedL (t' := tk) (ch := [z, TI, TO, i1, i2]) (fun c o hc q => hk c o (hin c hc) q) hf⟩
  self := fun A i s Q E st h => wpAny_pyIter_zip st.1 h
def iZipK (K : PySem.W.Frag) (ta : TA) : TI := fun σ H R => ta σ H fun vs H1 => ∃ k1 k2 a b xs ys, vs = [.ref a, .ref b] ∧ SqK k1 K H1 a xs ∧ SqK k2 K H1 b ys ∧ R (ItzK k1 k2 K a b) H1
theorem pi_zipK {X : Cx} {e e2 : Expr} {ta : TA} {p pos tpos : Pos} {elts : List Expr} {kk : Nat} (hg : Gl X "zip") (hm : X.mg "zip" = none) (ha : PA X [e, e2] ta)
    (hs : starEach [e, e2] X.env = (false, eval e X.env) :: starEach [e2] X.env) (hpl : (backTo pos (starEach [e2] X.env)).any (·.1) = false) :
    PI X (.Tuple elts kk tpos) (.Call (.Name "zip" p) [e, e2] [] pos) (iZipK X.K ta) := by
  refine ⟨fun pins s σ H R I h => ?_⟩
  refine Call_ (ld_blt I hg hm PyProof.Rows.boot_zip (PyProof.Rows.callWith_type1 (thn (ha.run pos pins s σ H _ I h) fun us s1 ⟨vs, H1, I1, r1, q1⟩ => ?_) hs hpl))
  obtain ⟨k1, k2, a, b, xs, ys, ex, hqx, hqy, q⟩ := q1
  subst ex
  cases r1 with
  | cons r rr =>
    cases rr with
    | cons r' rr =>
      cases rr
      cases r
      cases r'
      obtain ⟨its, rv, p1, la⟩ := I1.sqk hqx
      obtain ⟨its2, rv2, p2, lb⟩ := I1.sqk hqy
      refine zip_begins2 (beginsK k1 a its.toArray) (beginsK k2 b its2.toArray) p1 p2 fun h' hz hTI hTO h1 h2 hsz hk => wpAny_pyIter_zip hz ?_
      have I2 : L2.Inv X pins σ H1 { s1 with heap := h' } := I1.kept (t' := s1.toks) hk
      have S : ZipSep2 (s1.heap.objs.size + 4) (s1.heap.objs.size + 2) (s1.heap.objs.size + 3) s1.heap.objs.size (s1.heap.objs.size + 1) [s1.heap.objs.size, a] [s1.heap.objs.size + 1, b] :=
        zip_sep2 (N := s1.heap.objs.size) (fp1 := [a]) (fp2 := [b]) (fun c hc => by rw [List.mem_singleton.mp hc]; exact la) (fun c hc => by rw [List.mem_singleton.mp hc]; exact lb)
      refine ⟨s1.heap.objs.size + 4, [s1.heap.objs.size + 4, s1.heap.objs.size + 2, s1.heap.objs.size + 3, s1.heap.objs.size, s1.heap.objs.size + 1], _, _, H1, rfl, I2, turn_zipK S (Nat.ne_of_lt la) (Nat.ne_of_lt (Nat.lt_succ_of_lt lb)), ⟨hz, hTI, ⟨_, _, hTO⟩, iterK_of h1, iterK_of h2⟩, fun c hcm => ?_, q⟩
      have e' : c = s1.heap.objs.size + 4 ∨ c = s1.heap.objs.size + 2 ∨ c = s1.heap.objs.size + 3 ∨ c = s1.heap.objs.size ∨ c = s1.heap.objs.size + 1 := by simpa using hcm
      have hle : s1.heap.objs.size ≤ c := by
        rcases e' with z | z | z | z | z
        · rw [z]; exact Nat.le_add_right _ _
        · rw [z]; exact Nat.le_add_right _ _
        · rw [z]; exact Nat.le_add_right _ _
        · rw [z]; exact Nat.le_refl _
        · rw [z]; exact Nat.le_add_right _ _
      exact I1.fpOk hle (I1.hok.fresh hle)
end Sv
end

section
set_option Elab.async false
set_option linter.all false
set_option maxRecDepth 100000
set_option maxHeartbeats 2000000
namespace Sv
open PySem PySem.Spec PyProof.Rows L2
/-- a later state: nobody took what the items are made of -/
structure Lat (ex ex' ρ1 ρ' : List Addr) (H1 H' : Hp) : Prop where
  go : Go ρ1 ρ' H1 H'
  ex : ∀ a ∈ ex', a ∈ ex ∨ H1 a = none
theorem Lat.refl {ex ρ : List Addr} {H : Hp} : Lat ex ex ρ ρ H H := ⟨Go.refl _ _, fun _ h => .inl h⟩
section
variable {B : Bk} {T : List (Addr × Str)} {ex ex' ρ1 ρ' : List Addr} {H1 H' : Hp}
theorem Lat.vr {v : PV} {x : V} (l : Lat ex ex' ρ1 ρ' H1 H') (r : VR (B.wx ex) ρ1 H1 v x) : VR (B.wx ex') ρ' H' v x :=
  (r.turn (B := B.wx ex) (B' := B.wx ex') rfl rfl rfl rfl rfl (fun a o ha e => ⟨e, ha.1, fun z => by
    rcases l.ex a z with q | q
    · exact ha.2 q
    · rw [e] at q; cases q⟩) fun _ _ h => h).mono l.go
theorem Lat.vrs {v : List PV} {x : List V} (l : Lat ex ex' ρ1 ρ' H1 H') (r : VRs (B.wx ex) ρ1 H1 v x) : VRs (B.wx ex') ρ' H' v x :=
  (r.turn (B := B.wx ex) (B' := B.wx ex') rfl rfl rfl rfl rfl (fun a o ha e => ⟨e, ha.1, fun z => by
    rcases l.ex a z with q | q
    · exact ha.2 q
    · rw [e] at q; cases q⟩) fun _ _ h => h).mono l.go
/-- a sequence that stands -/
theorem seq_stand {v : PV} {x : V} {xs : List PV} {S1 : Store} (st : StR (B.wx ex) T ρ1 H1 S1) (r : VR (B.wx ex) ρ1 H1 v x) (h : items v S1 = some xs) :
    ∃ k a, x = .ref a ∧ (∃ vs, SqK k B.K H1 a vs) ∧ ∀ ex' ρ' H' S', Lat ex ex' ρ1 ρ' H1 H' → StR (B.wx ex') T ρ' H' S' → stand [v] S1 S' → ∃ vs, SqK k B.K H' a vs ∧ VRs (B.wx ex') ρ' H' xs vs := by
  unfold items at h
  split at h
  · cases h
    obtain ⟨a, vs, e, q, o, rs⟩ := vr_tup.mp r
    exact ⟨false, a, e, ⟨vs, .of q⟩, fun ex' ρ' H' S' l st' _ => ⟨vs, .of (l.go.keep a _ q o.1 fun _ z => by cases z), l.vrs rs⟩⟩
  · cases h
    obtain ⟨a, vs, e, q, o, rs⟩ := vr_lst.mp r
    exact ⟨true, a, e, ⟨vs, .of q⟩, fun ex' ρ' H' S' l st' _ => ⟨vs, .of (l.go.keep a _ q o.1 fun _ z => by cases z), l.vrs rs⟩⟩
  · cases h
    obtain ⟨a, vs, e, q, rs⟩ := vr_fz.mp r
    rcases q with ⟨q, o⟩ | q
    · refine ⟨true, a, e, ⟨vs, .inl q⟩, fun ex' ρ' H' S' l st' _ => ⟨vs, .inl ?_, l.vrs rs⟩⟩
      rcases q with q | ⟨ob, q⟩
      · exact .inl (l.go.keep a _ q o.1 fun _ z => by cases z)
      · exact .inr ⟨ob, l.go.keep a _ q o.1 fun _ z => by cases z⟩
    · exact ⟨true, a, e, ⟨vs, q _⟩, fun ex' ρ' H' S' l st' _ => ⟨vs, q _, l.vrs rs⟩⟩
  · rename_i i
    split at h
    · rename_i ys e
      cases h
      obtain ⟨a, ex, ha⟩ := vr_loc.mp r
      obtain ⟨vs, q, rs⟩ := st.cl i a _ ha e
      refine ⟨true, a, ex, ⟨vs, .of q⟩, fun ex' ρ' H' S' l st' hs => ?_⟩
      have e' := hs i (by simp)
      rw [e] at e'
      obtain ⟨vs', q', rs'⟩ := st'.cl i a _ (l.go.at ha) e'
      exact ⟨vs', .of q', rs'⟩
    · cases h
  · cases h
end
/-- J yields xs as long as gs stands as in S1 -/
def ItR (B : Bk) (T : List (Addr × Str)) (ex ρ1 : List Addr) (H1 : Hp) (gs : List PV) (S1 : Store) (xs : List PV) (J : L2.It) : Prop :=
  ∀ (i : Nat) ex' ρ' H' S', Lat ex ex' ρ1 ρ' H1 H' → StR (B.wx ex') T ρ' H' S' → stand gs S1 S' →
    (∀ v, xs[i]? = some v → J.go i H' ∧ ∀ x H'', J.yld i H' x H'' → Go ρ' ρ' H' H'' ∧ StR (B.wx ex') T ρ' H'' S' ∧ VR (B.wx ex') ρ' H'' v x) ∧ (xs.length = i → J.stop i H')
def RIt (B : Bk) (T : List (Addr × Str)) (Z : XK) (ex ρ : List Addr) (H : Hp) (r : Rs (List PV × List PV)) (R : L2.It → Hp → Prop) : Prop := match r with
  | .ok w S1 => ∀ J ρ1 H1, Go ρ ρ1 H H1 → StR (B.wx ex) T ρ1 H1 S1 → ItR B T ex ρ1 H1 w.1 S1 w.2 J → R J H1
  | .ex c S' => ExR (B.wx ex) T Z ρ H c S'
  | .no => False
def rdI (B : Bk) (T : List (Addr × Str)) (Z : XK) (Φ : Phi) (it : It) : TI := fun σ H R => ∃ ex ρ S sg, StR (B.wx ex) T ρ H S ∧ SgR (B.wx ex) ρ H sg σ ∧ RIt B T Z ex ρ H (evi Φ it sg S) R
theorem _root_.L2.PI.of {X : Cx} {tg e : Expr} {t t' : TI} (h : PI X tg e t) (i : ∀ σ H R, t' σ H R → t σ H R) : PI X tg e t' := ⟨fun pins s σ H R I q => h.run pins s σ H R I (i σ H R q)⟩
section
variable {X : Cx} {B : Bk} {T : List (Addr × Str)} {Z : XK} {Φ : Phi}
variable {ex ρ : List Addr} {H : Hp} {S : Store} {sg : Sg} {σ : L2.St}
variable {pa pb tg : Expr} {a b : E} {pos p : Pos}
def itsK (k : Bool) (K : PySem.W.Frag) (a : Addr) : L2.It := match k with
  | true => Itl K a
  | false => Itt K a
theorem pi_seq {l : Expr} {tl : TE} (hl : PE X l tl) : PI X tg l (fun σ H R => tl σ H fun x H1 => ∃ k a, x = .ref a ∧ (∃ xs, SqK k X.K H1 a xs) ∧ R (itsK k X.K a) H1) := by
  refine ⟨fun pins s σ H R I h => ?_⟩
  refine thn (hl.run pins s σ H _ I h) fun v s1 ⟨x, H1, I1, r1, q1⟩ => ?_
  obtain ⟨k, a, e, ⟨xs, hq⟩, q⟩ := q1
  subst e
  cases r1
  cases k with
  | true =>
    obtain ⟨its, rv, p, hz⟩ := I1.list hq
    refine wpAny_pyIter_list p.isList ?_
    refine ⟨s1.heap.objs.size, [s1.heap.objs.size], _, _, H1, rfl, I1.kept (t' := s1.toks) fun b o e => Heap.get?_push_of_some _ e, turn_list a _, ⟨_, Heap.get?_push_size _ rfl, rfl, rfl⟩, fun b hb => ?_, q⟩
    have e : b = s1.heap.objs.size := by simpa using hb
    subst e
    exact I1.fpOk (Nat.le_refl _) (I1.hok.fresh (Nat.le_refl _))
  | false =>
    obtain ⟨its, rv, p, hz⟩ := I1.tuple hq
    refine wpAny_pyIter_tuple (show s1.heap.IsTuple a its.toArray from p) ?_
    refine ⟨s1.heap.objs.size, [s1.heap.objs.size], _, _, H1, rfl, I1.kept (t' := s1.toks) fun b o e => Heap.get?_push_of_some _ e, turn_tuple a _, ⟨_, Heap.get?_push_size _ rfl, rfl, rfl⟩, fun b hb => ?_, q⟩
    have e : b = s1.heap.objs.size := by simpa using hb
    subst e
    exact I1.fpOk (Nat.le_refl _) (I1.hok.fresh (Nat.le_refl _))
/-- nothing of two lists of one place that differs -/
def InvAt (X : Cx) (H : Hp) : Prop := ∃ pins s σ, L2.Inv X pins σ H s
theorem goI {f : PV → Store → Rs (List PV × List PV)} {R : VK} {Q : L2.It → Hp → Prop} (st : StR (B.wx ex) T ρ H S) (sr : SgR (B.wx ex) ρ H sg σ)
    (h : RIt B T Z ex ρ H ((ev Φ a sg S).bind f) Q)
    (k : ∀ x ρ1 H1 v S1, Go ρ ρ1 H H1 → StR (B.wx ex) T ρ1 H1 S1 → SgR (B.wx ex) ρ1 H1 sg σ → VR (B.wx ex) ρ1 H1 v x → RIt B T Z ex ρ1 H1 (f v S1) Q → R x H1) : rdE B T Z Φ a σ H R := by
  refine ⟨ex, ρ, S, sg, st, sr, ?_⟩
  cases e : ev Φ a sg S with
  | ok v S1 =>
    rw [e] at h
    intro x ρ1 H1 g st1 r
    refine k x ρ1 H1 v S1 g st1 (sr.mono g) r ?_
    rw [Rs.bind_ok] at h
    cases e2 : f v S1 with
    | ok w S2 => rw [e2] at h; exact fun J ρ2 H2 g2 => h J ρ2 H2 (g.trans g2)
    | ex c S2 => rw [e2] at h; exact h.mono g
    | no => rw [e2] at h; exact h
  | ex c S1 => rw [e] at h; exact h
  | no => rw [e] at h; exact h
theorem ni_e (si : Sit X B Z) (ha : PE X pa (rdE B T Z Φ a)) : PI X tg pa (rdI B T Z Φ (.e a)) :=
  (pi_seq ha).of fun σ H R ⟨ex, ρ, S, sg, st, sr, h⟩ => by
    rw [evi] at h
    refine goI st sr h fun x ρ1 H1 v S1 g1 st1 sr1 r1 h1 => ?_
    cases e : items v S1 with
    | none => rw [e] at h1; exact h1.elim
    | some xs =>
      rw [e] at h1
      obtain ⟨k, a, ex, hq, stand⟩ := seq_stand st1 r1 e
      rw [si.K] at hq stand
      refine ⟨k, a, ex, hq, h1 _ ρ1 H1 (Go.refl _ _) st1 fun i ex' ρ' H' S' l st' hs => ?_⟩
      obtain ⟨vs, hv, rs⟩ := stand ex' ρ' H' S' l st' hs
      cases k with
      | true =>
        refine ⟨fun w hw => ?_, fun hl => ⟨vs, hv, by rw [← rs.length, hl]; exact Nat.le_refl _⟩⟩
        obtain ⟨u, hu, ru⟩ := rs.get hw
        refine ⟨⟨vs, u, hv, hu⟩, fun x H'' y => ?_⟩
        obtain ⟨rfl, y⟩ := y
        have := y vs hv
        rw [hu] at this
        cases this
        exact ⟨Go.refl _ _, st', ru⟩
      | false =>
        refine ⟨fun w hw => ?_, fun hl => ⟨vs, hv, by rw [← rs.length, hl]; exact Nat.le_refl _⟩⟩
        obtain ⟨u, hu, ru⟩ := rs.get hw
        refine ⟨⟨vs, u, hv, hu⟩, fun x H'' y => ?_⟩
        obtain ⟨rfl, y⟩ := y
        have := y vs hv
        rw [hu] at this
        cases this
        exact ⟨Go.refl _ _, st', ru⟩
theorem rng_get {lo hi : Int} {i : Nat} {v : PV} (h : (rng lo hi)[i]? = some v) : i < (hi - lo).toNat ∧ v = .int (lo + i) := by
  unfold rng at h
  rw [List.getElem?_map] at h
  cases e : (List.range (hi - lo).toNat)[i]? with
  | none => rw [e] at h; cases h
  | some k =>
    rw [e] at h
    obtain ⟨h1, h2⟩ := List.getElem?_eq_some_iff.mp e
    rw [List.length_range] at h1
    rw [List.getElem_range] at h2
    subst h2
    cases h
    exact ⟨h1, rfl⟩
theorem rng_it {ex ρ1 : List Addr} {H1 : Hp} {lo hi : Int} {S1 : Store} : ItR B T ex ρ1 H1 [] S1 (rng lo hi) (Itr lo (hi - lo).toNat) := fun i ex' ρ' H' S' l st hs => by
  refine ⟨fun v hv => ?_, fun hl => ?_⟩
  · obtain ⟨h1, rfl⟩ := rng_get hv
    refine ⟨h1, fun x H'' y => ?_⟩
    obtain ⟨rfl, rfl⟩ := y
    exact ⟨Go.refl _ _, st, vr_int.mpr rfl⟩
  · have : (rng lo hi).length = (hi - lo).toNat := by simp [rng]
    show (hi - lo).toNat ≤ i
    omega
theorem ni_range1 (si : Sit X B Z) (hg : Gl X "range") (hm : X.mg "range" = none) (ha : PE X pa (rdE B T Z Φ a)) (hs : starEach [pa] X.env = [(false, eval pa X.env)]) : PI X tg (.Call (.Name "range" p) [pa] [] pos) (rdI B T Z Φ (.range1 a)) :=
  (pi_range1 hg hm (pa_cons ha pa_nil hs) hs).of fun σ H R ⟨ex, ρ, S, sg, st, sr, h⟩ => by
    rw [evi] at h
    refine goI st sr h fun x ρ1 H1 v S1 g1 st1 sr1 r1 h1 => ?_
    unfold rng1V at h1
    split at h1
    · rename_i j
      split at h1
      · rename_i hj
        refine ⟨j, by rw [vr_int.mp r1], by omega, by omega, ?_⟩
        have e : (j - 0).toNat = j.toNat := by simp
        have q := h1 (Itr 0 (j - 0).toNat) ρ1 H1 (Go.refl _ _) st1 rng_it
        rw [e] at q
        exact q
      · exact h1.elim
    · exact h1.elim
theorem ni_range2 (si : Sit X B Z) (hg : Gl X "range") (hm : X.mg "range" = none) (ha : PE X pa (rdE B T Z Φ a)) (hb : PE X pb (rdE B T Z Φ b)) (hs : starEach [pa, pb] X.env = (false, eval pa X.env) :: starEach [pb] X.env) (hs2 : starEach [pb] X.env = [(false, eval pb X.env)]) :
    PI X tg (.Call (.Name "range" p) [pa, pb] [] pos) (rdI B T Z Φ (.range2 a b)) :=
  (pi_range2 hg hm (pa_cons ha (pa_cons hb pa_nil hs2) hs) (by rw [hs, hs2]) hs2).of fun σ H R ⟨ex, ρ, S, sg, st, sr, h⟩ => by
    rw [evi] at h
    refine goI st sr h fun x ρ1 H1 v S1 g1 st1 sr1 r1 h1 => goI st1 sr1 h1 fun y ρ2 H2 w S2 g2 st2 sr2 r2 h2 => ?_
    unfold rng2V at h2
    split at h2
    · rename_i i j
      split at h2
      · rename_i hj
        have r1' := r1.mono g2
        refine ⟨i, j, by rw [vr_int.mp r1', vr_int.mp r2], by omega, h2 _ ρ2 H2 (Go.refl _ _) st2 rng_it⟩
      · exact h2.elim
    · exact h2.elim
theorem ni_enum (si : Sit X B Z) {elts : List Expr} {kk : Nat} {tpos : Pos} (hg : Gl X "enumerate") (hm : X.mg "enumerate" = none) (ha : PE X pa (rdE B T Z Φ a)) (hs : starEach [pa] X.env = [(false, eval pa X.env)]) :
    PI X (.Tuple elts kk tpos) (.Call (.Name "enumerate" p) [pa] [] pos) (rdI B T Z Φ (.enum a)) :=
  (pi_enumK hg hm (pa_cons ha pa_nil hs) hs).of fun σ H R ⟨ex, ρ, S, sg, st, sr, h⟩ => by
    rw [evi] at h
    refine goI st sr h fun x ρ1 H1 v S1 g1 st1 sr1 r1 h1 => ?_
    cases e : items v S1 with
    | none => rw [e] at h1; exact h1.elim
    | some xs =>
      rw [e] at h1
      obtain ⟨k, a, ex, ⟨vs0, hq⟩, stand⟩ := seq_stand st1 r1 e
      rw [si.K] at hq stand
      refine ⟨k, a, vs0, by rw [ex], hq, h1 _ ρ1 H1 (Go.refl _ _) st1 fun i ex' ρ' H' S' l st' hs => ?_⟩
      obtain ⟨vs, hv, rs⟩ := stand ex' ρ' H' S' l st' hs
      refine ⟨fun w hw => ?_, fun hl => ⟨vs, hv, by rw [← rs.length, ← hl]; simp⟩⟩
      rw [List.getElem?_map, List.getElem?_zipIdx] at hw
      cases e2 : xs[i]? with
      | none => rw [e2] at hw; cases hw
      | some u =>
        rw [e2] at hw
        simp only [Option.map_some, Option.some.injEq] at hw
        obtain ⟨y, hy, ry⟩ := rs.get e2
        refine ⟨⟨vs, y, hv, hy⟩, fun x H'' yy => ?_⟩
        obtain ⟨T', x', rfl, hT, rfl, hx⟩ := yy
        have := hx vs hv
        rw [hy] at this
        cases this
        obtain ⟨st2, g2, no⟩ := st'.fresh (o := .tup [.int (i : Nat), y]) hT
        refine ⟨g2, st2, ?_⟩
        subst hw
        refine vr_tup.mpr ⟨T', _, rfl, upd_same, no, .cons (vr_int.mpr (by simp)) (.cons (ry.mono g2) .nil)⟩
theorem ni_zip (si : Sit X B Z) {elts : List Expr} {kk : Nat} {tpos : Pos} (hg : Gl X "zip") (hm : X.mg "zip" = none) (ha : PE X pa (rdE B T Z Φ a)) (hb : PE X pb (rdE B T Z Φ b)) (hs : starEach [pa, pb] X.env = (false, eval pa X.env) :: starEach [pb] X.env) (hs2 : starEach [pb] X.env = [(false, eval pb X.env)]) :
    PI X (.Tuple elts kk tpos) (.Call (.Name "zip" p) [pa, pb] [] pos) (rdI B T Z Φ (.zip a b)) :=
  (pi_zipK hg hm (pa_cons ha (pa_cons hb pa_nil hs2) hs) hs (by rw [hs2]; rfl)).of fun σ H R ⟨ex, ρ, S, sg, st, sr, h⟩ => by
    rw [evi] at h
    refine goI st sr h fun x ρ1 H1 v S1 g1 st1 sr1 r1 h1 => goI st1 sr1 h1 fun y ρ2 H2 w S2 g2 st2 sr2 r2 h2 => ?_
    unfold zipV at h2
    split at h2
    · rename_i xs ys e1 e2
      obtain ⟨k1, a1, ex1, ⟨us0, hq1⟩, stand1⟩ := seq_stand st2 (r1.mono g2) e1
      obtain ⟨k2, a2, ex2, ⟨vs0, hq2⟩, stand2⟩ := seq_stand st2 r2 e2
      rw [si.K] at hq1 hq2 stand1 stand2
      refine ⟨k1, k2, a1, a2, us0, vs0, by rw [ex1, ex2], hq1, hq2, h2 _ ρ2 H2 (Go.refl _ _) st2 fun i ex' ρ' H' S' l st' hs => ?_⟩
      obtain ⟨us, hu, rs1⟩ := stand1 ex' ρ' H' S' l st' fun j hj => hs j (by simp at hj ⊢; exact .inl hj)
      obtain ⟨vs, hv, rs2⟩ := stand2 ex' ρ' H' S' l st' fun j hj => hs j (by simp at hj ⊢; exact .inr hj)
      refine ⟨fun w hw => ?_, fun hl => ⟨us, vs, hu, hv, by rw [← rs1.length, ← rs2.length, ← hl]; simp⟩⟩
      rw [List.getElem?_map] at hw
      cases e3 : (xs.zip ys)[i]? with
      | none => rw [e3] at hw; cases hw
      | some q =>
        rw [e3] at hw
        simp only [Option.map_some, Option.some.injEq] at hw
        obtain ⟨q1, q2⟩ := List.getElem?_zip_eq_some.mp e3
        obtain ⟨y1, hy1, ry1⟩ := rs1.get q1
        obtain ⟨y2, hy2, ry2⟩ := rs2.get q2
        refine ⟨⟨us, vs, y1, y2, hu, hv, hy1, hy2⟩, fun x H'' yy => ?_⟩
        obtain ⟨T', x', y', rfl, hT, rfl, hx, hy⟩ := yy
        have t1 := hx us hu
        have t2 := hy vs hv
        rw [hy1] at t1
        rw [hy2] at t2
        cases t1
        cases t2
        obtain ⟨st2, g2, no⟩ := st'.fresh (o := .tup [y1, y2]) hT
        refine ⟨g2, st2, ?_⟩
        subst hw
        exact vr_tup.mpr ⟨T', _, rfl, upd_same, no, .cons (ry1.mono g2) (.cons (ry2.mono g2) .nil)⟩
    · exact h2.elim
end
end Sv
end

section
set_option Elab.async false
set_option linter.all false
set_option maxRecDepth 100000
set_option maxHeartbeats 2000000
/-! targets and statements -/
namespace Sv
open PySem PySem.Spec PyProof.Rows L2
mutual
def tgN : Tg → List Nat
  | .x i => [i]
  | .sub _ _ => []
  | .tup l => tgsN l
def tgsN : Tgs → List Nat
  | .nil => []
  | .cons t r => tgN t ++ tgsN r
end
/-- other slots are as they were -/
def Only (l : List Nat) (σ σ' : L2.St) : Prop := σ'.length = σ.length ∧ ∀ i, i ∉ l → σ'[i]? = σ[i]?
theorem Only.refl (l : List Nat) (σ : L2.St) : Only l σ σ := ⟨rfl, fun _ _ => rfl⟩
theorem Only.trans {l m n : List Nat} {σ σ1 σ2 : L2.St} (a : Only l σ σ1) (b : Only m σ1 σ2) (h1 : ∀ i ∈ l, i ∈ n) (h2 : ∀ i ∈ m, i ∈ n) : Only n σ σ2 :=
  ⟨b.1.trans a.1, fun i hi => (b.2 i fun h => hi (h2 i h)).trans (a.2 i fun h => hi (h1 i h))⟩
theorem getS_set {sg : Sg} {i j : Nat} {v w : PV} (h : getS (setS sg i (some v)) j = some w) : (j = i ∧ w = v) ∨ (j ≠ i ∧ getS sg j = some w) := by
  induction sg generalizing i j with
  | nil => cases i <;> cases j <;> cases h
  | cons a r ih =>
    cases i with
    | zero =>
      cases j with
      | zero => cases h; exact .inl ⟨rfl, rfl⟩
      | succ j => exact .inr ⟨by omega, h⟩
    | succ i =>
      cases j with
      | zero => exact .inr ⟨by omega, h⟩
      | succ j =>
        rcases ih (i := i) (j := j) h with ⟨h1, h2⟩ | ⟨h1, h2⟩
        · exact .inl ⟨by omega, h2⟩
        · exact .inr ⟨by omega, h2⟩
theorem setS_length (sg : Sg) (i : Nat) (o : Option PV) : (setS sg i o).length = sg.length := by
  induction sg generalizing i with
  | nil => cases i <;> rfl
  | cons a r ih => cases i with
    | zero => rfl
    | succ i => simp [setS, ih]
theorem getS_lt {sg : Sg} {i : Nat} {v : PV} (h : getS sg i = some v) : i < sg.length := by
  induction sg generalizing i with
  | nil => cases i <;> cases h
  | cons a r ih => cases i with
    | zero => simp
    | succ i => have := ih (i := i) h; simp; omega
theorem getS_mask {a b : Sg} {i : Nat} {v : PV} (h : getS (mask a b) i = some v) : getS b i = some v := by
  induction a generalizing b i with
  | nil => cases i <;> cases h
  | cons x r ih =>
    cases b with
    | nil => cases x <;> (cases i <;> cases h)
    | cons y s =>
      cases x with
      | none => cases i with
        | zero => cases h
        | succ i => exact ih (b := s) h
      | some x => cases i with
        | zero => exact h
        | succ i => exact ih (b := s) h
theorem mask_length (a b : Sg) : (mask a b).length ≤ b.length := by
  induction a generalizing b with
  | nil => simp [mask]
  | cons x r ih => cases b with
    | nil => cases x <;> simp [mask]
    | cons y s =>
      have := ih s
      cases x <;> (simp [mask]; exact this)
section
variable {B : Bk} {T : List (Addr × Str)} {Z : XK} {Φ : Phi} {ex ρ ρ' : List Addr} {H H' : Hp} {S : Store} {sg : Sg} {σ : L2.St}
theorem SgR.set {i : Nat} {v : PV} {x : V} (h : SgR B ρ H sg σ) (r : VR B ρ H v x) : SgR B ρ H (setS sg i (some v)) (σ.set i (some x)) := by
  refine ⟨by rw [setS_length, List.length_set]; exact h.1, fun j w e => ?_⟩
  rcases getS_set e with ⟨rfl, rfl⟩ | ⟨hne, e⟩
  · have hl := getS_lt e
    rw [setS_length] at hl
    exact ⟨x, List.getElem?_set_self (by have := h.1; omega), r⟩
  · obtain ⟨y, hy, ry⟩ := h.2 j w e
    exact ⟨y, by rw [List.getElem?_set_ne (by omega)]; exact hy, ry⟩
theorem SgR.mask {a : Sg} (h : SgR B ρ H sg σ) : SgR B ρ H (Sv.mask a sg) σ := ⟨Nat.le_trans (mask_length a sg) h.1, fun i v e => h.2 i v (getS_mask e)⟩
/-- what follows a target -/
def RGt (B : Bk) (T : List (Addr × Str)) (ρ : List Addr) (H : Hp) (l : List Nat) (σ : L2.St) (r : Rs Sg) (Q : L2.St → Hp → Prop) : Prop := match r with
  | .ok sg' S' => ∀ σ' ρ' H', Go ρ ρ' H H' → StR B T ρ' H' S' → SgR B ρ' H' sg' σ' → Only l σ σ' → Q σ' H'
  | _ => False
def rdG (B : Bk) (T : List (Addr × Str)) (Φ : Phi) (t : Tg) : TG := fun x σ H Q => ∃ ex ρ S sg v, StR (B.wx ex) T ρ H S ∧ SgR (B.wx ex) ρ H sg σ ∧ VR (B.wx ex) ρ H v x ∧ RGt (B.wx ex) T ρ H (tgN t) σ (evg Φ t v sg S) Q
def rdGs (B : Bk) (T : List (Addr × Str)) (Φ : Phi) (t : Tgs) : TGs := fun xs σ H Q => ∃ ex ρ S sg vs, StR (B.wx ex) T ρ H S ∧ SgR (B.wx ex) ρ H sg σ ∧ VRs (B.wx ex) ρ H vs xs ∧ RGt (B.wx ex) T ρ H (tgsN t) σ (evgs Φ t vs sg S) Q
theorem _root_.L2.PG.of {X : Cx} {e : Expr} {t t' : TG} (h : PG X e t) (i : ∀ x σ H Q, t' x σ H Q → t x σ H Q) : PG X e t' := ⟨fun pins s σ H v u Q I r q => h.run pins s σ H v u Q I r (i v σ H Q q)⟩
theorem _root_.L2.PGs.of {X : Cx} {e : List Expr} {t t' : TGs} (h : PGs X e t) (i : ∀ x σ H Q, t' x σ H Q → t x σ H Q) : PGs X e t' := ⟨fun pins s σ H v u Q I r q => h.run pins s σ H v u Q I r (i v σ H Q q)⟩
variable {X : Cx} {pa pb : Expr} {a b : E} {pos p : Pos}
theorem ng_x (si : Sit X B Z) {i : Nat} {x : Str} (hi : X.N[i]? = some x) (hx : Loc X.env.scope x) (hf : X.fn x = true ∨ X.env.scope.names.lookup x = some .local) : PG X (.Name x pos) (rdG B T Φ (.x i)) :=
  (pg_name si.nd hi hx hf).of fun x σ H Q ⟨ex, ρ, S, sg, v, st, sr, r, h⟩ => by
    rw [evg] at h
    exact h _ ρ H (Go.refl _ _) st (sr.set r) ⟨by rw [List.length_set], fun j hj => List.getElem?_set_ne (by simp [tgN] at hj; omega)⟩
theorem ng_nil : PGs X [] (rdGs B T Φ .nil) := pgs_nil.of fun xs σ H Q ⟨ex, ρ, S, sg, vs, st, sr, r, h⟩ => by
  cases vs with
  | nil =>
    rw [evgs] at h
    exact ⟨r.unnil, h σ ρ H (Go.refl _ _) st sr (Only.refl _ _)⟩
  | cons v vs =>
    rw [evgs] at h
    · exact h.elim
    all_goals (intros; simp at *)
theorem ng_cons {ps : List Expr} {t : Tg} {l : Tgs} (h1 : PG X pa (rdG B T Φ t)) (h2 : PGs X ps (rdGs B T Φ l)) (hs : (assignEach (pa :: ps) X.env).map (·.2) = assign pa X.env :: (assignEach ps X.env).map (·.2)) : PGs X (pa :: ps) (rdGs B T Φ (.cons t l)) :=
  (pgs_cons h1 h2 hs).of fun xs σ H Q ⟨ex, ρ, S, sg, vs, st, sr, r, h⟩ => by
    cases vs with
    | nil =>
      rw [evgs] at h
      · exact h.elim
      all_goals (intros; simp at *)
    | cons v vs =>
      rw [evgs] at h
      obtain ⟨x, xr, rfl, r1, r2⟩ := r.uncons
      refine ⟨x, xr, rfl, ex, ρ, S, sg, v, st, sr, r1, ?_⟩
      cases e : evg Φ t v sg S with
      | ok sg1 S1 =>
        rw [e] at h
        intro σ1 ρ1 H1 g st1 sr1 o1
        refine ⟨ex, ρ1, S1, sg1, vs, st1, sr1, r2.mono g, ?_⟩
        have h : RGt (B.wx ex) T ρ H (tgsN (.cons t l)) σ (evgs Φ l vs sg1 S1) Q := h
        cases e2 : evgs Φ l vs sg1 S1 with
        | ok sg2 S2 =>
          rw [e2] at h
          exact fun σ' ρ' H' g' st' sr' o' => h σ' ρ' H' (g.trans g') st' sr' (o1.trans o' (fun i hi => by simp [tgsN, hi]) fun i hi => by simp [tgsN, hi])
        | ex c S2 => rw [e2] at h; exact h.elim
        | no => rw [e2] at h; exact h.elim
      | ex c S1 => rw [e] at h; exact h.elim
      | no => rw [e] at h; exact h.elim
def tgsLen : Tgs → Nat
  | .nil => 0
  | .cons _ r => tgsLen r + 1
theorem evgs_len : ∀ {l : Tgs} {vs : List PV} {sg : Sg} {S : Store} {sg' : Sg} {S' : Store}, evgs Φ l vs sg S = .ok sg' S' → vs.length = tgsLen l
  | .nil, [], _, _, _, _, _ => rfl
  | .nil, _ :: _, _, _, _, _, h => by
    rw [evgs] at h
    · cases h
    all_goals (intros; simp at *)
  | .cons _ _, [], _, _, _, _, h => by
    rw [evgs] at h
    · cases h
    all_goals (intros; simp at *)
  | .cons t l, v :: vs, sg, S, sg', S', h => by
    rw [evgs] at h
    cases e : evg Φ t v sg S with
    | ok sg1 S1 =>
      rw [e] at h
      have := evgs_len (l := l) (vs := vs) h
      simp [tgsLen, this]
    | ex c S1 => rw [e] at h; cases h
    | no => rw [e] at h; cases h
theorem ng_tup (si : Sit X B Z) {es : List Expr} {k : Nat} {l : Tgs} {n : Nat} (h : PGs X es (rdGs B T Φ l)) (hn : (assignEach es X.env).length = n) (hl : tgsLen l = n) (hst : (assignEach es X.env).findIdx? (·.1) = none) : PG X (.Tuple es k pos) (rdG B T Φ (.tup l)) :=
  (pg_tup si.calm h hn hst).of fun x σ H Q ⟨ex, ρ, S, sg, v, st, sr, r, h⟩ => by
    rw [evg] at h
    cases v with
    | tup xs =>
      obtain ⟨p, vs, rfl, hp, o, rs⟩ := vr_tup.mp r
      have h : RGt (B.wx ex) T ρ H (tgsN l) σ (evgs Φ l xs sg S) Q := h
      refine ⟨p, vs, rfl, .of hp, ?_, ex, ρ, S, sg, xs, st, sr, rs, h⟩
      rw [← rs.length, ← hl]
      cases e : evgs Φ l xs sg S with
      | ok sg1 S1 => exact evgs_len e
      | ex c S1 => rw [e] at h; exact h.elim
      | no => rw [e] at h; exact h.elim
    | _ => exact h.elim
theorem PSet.exi {ι : Type} {r : ι → TSet} (h : ∀ i, PSet X (r i)) : PSet X (fun o i v H Q => ∃ j, r j o i v H Q) := fun pins s σ H o i v ov iv u Q I ro ri rv ⟨j, q⟩ => h j pins s σ H o i v ov iv u Q I ro ri rv q
theorem PGet.exi {ι : Type} {r : ι → V → V → Hp → VK → Prop} (h : ∀ i, PGet X (r i)) : PGet X (fun o i H Q => ∃ j, r j o i H Q) := fun pins s σ H o i ov iv Q I ro ri ⟨j, q⟩ => h j pins s σ H o i ov iv Q I ro ri q
theorem RGt.bindE {e : E} {f : PV → Store → Rs Sg} {l : List Nat} {Q : L2.St → Hp → Prop} {R : VK} (st : StR (B.wx ex) T ρ H S) (sr : SgR (B.wx ex) ρ H sg σ) (h : RGt (B.wx ex) T ρ H l σ ((ev Φ e sg S).bind f) Q)
    (k : ∀ x ρ1 H1 v S1, Go ρ ρ1 H H1 → StR (B.wx ex) T ρ1 H1 S1 → SgR (B.wx ex) ρ1 H1 sg σ → VR (B.wx ex) ρ1 H1 v x → RGt (B.wx ex) T ρ1 H1 l σ (f v S1) Q → R x H1) : rdE B T Z Φ e σ H R := by
  refine ⟨ex, ρ, S, sg, st, sr, ?_⟩
  cases e1 : ev Φ e sg S with
  | ok v S1 =>
    rw [e1] at h
    intro x ρ1 H1 g st1 r
    refine k x ρ1 H1 v S1 g st1 (sr.mono g) r ?_
    rw [Rs.bind_ok] at h
    cases e2 : f v S1 with
    | ok sg2 S2 => rw [e2] at h; exact fun σ' ρ' H' g' => h σ' ρ' H' (g.trans g')
    | ex c S2 => rw [e2] at h; exact h.elim
    | no => rw [e2] at h; exact h.elim
  | ex c S1 => rw [e1] at h; exact h.elim
  | no => rw [e1] at h; exact h.elim
theorem ng_sub (si : Sit X B Z) (ha : PE X pa (rdE B T Z Φ a)) (hb : PE X pb (rdE B T Z Φ b)) (hs : ∀ v, assign (.Subscript pa pb pos) X.env v = (do
      let ov ← holding [v] (eval pa X.env)
      let iv ← holding [v, ov] (eval pb X.env)
      standAt pos
      holding [v, ov, iv] (setItem ov iv v)
      release [v, ov, iv] [])) : PG X (.Subscript pa pb pos) (rdG B T Φ (.sub a b)) :=
  (pg_sub ha hb (PSet.exi fun ex => set_ok (B := B.wx ex) (T := T) (by have := si.units; omega)) hs).of fun x σ H Q ⟨ex, ρ, S, sg, v, st, sr, r, h⟩ => by
    rw [evg] at h
    refine RGt.bindE st sr h fun o ρ1 H1 vo S1 g1 st1 sr1 r1 h1 => RGt.bindE st1 sr1 h1 fun i ρ2 H2 vi S2 g2 st2 sr2 r2 h2 => ?_
    cases e : setIx vo vi v S2 with
    | none => rw [e] at h2; exact h2.elim
    | some S3 =>
      rw [e] at h2
      exact ⟨ex, ρ2, S2, vo, vi, v, S3, st2, r1.mono g2, r2, r.mono (g1.trans g2), e, fun ρ' H' g' st' => h2 σ ρ' H' g' st' (sr2.mono g') (Only.refl _ _)⟩
/-! ### statements -/
/-- what follows a statement -/
def RSt (B : Bk) (T : List (Addr × Str)) (Z : XK) (ρ : List Addr) (H : Hp) (r : Rs (Fl × Sg)) (D : Ends) : Prop := match r with
  | .ok (.nx, sg') S' => ∀ σ' ρ' H', Go ρ ρ' H H' → StR B T ρ' H' S' → SgR B ρ' H' sg' σ' → D.nx σ' H'
  | .ok (.bk, sg') S' => ∀ σ' ρ' H', Go ρ ρ' H H' → StR B T ρ' H' S' → SgR B ρ' H' sg' σ' → D.bk σ' H'
  | .ok (.ct, sg') S' => ∀ σ' ρ' H', Go ρ ρ' H H' → StR B T ρ' H' S' → SgR B ρ' H' sg' σ' → D.ct σ' H'
  | .ok (.rt v, _) S' => ∀ x ρ' H', Go ρ ρ' H H' → StR B T ρ' H' S' → VR B ρ' H' v x → D.rt x H'
  | .ex c S' => ExR B T Z ρ H c S'
  | .no => False
theorem RSt.mono {ρ1 : List Addr} {H1 : Hp} {r : Rs (Fl × Sg)} {D : Ends} (h : RSt B T Z ρ H r D) (g : Go ρ ρ1 H H1) : RSt B T Z ρ1 H1 r D := by
  cases r with
  | ok q S' =>
    obtain ⟨f, sg'⟩ := q
    cases f with
    | nx => exact fun σ' ρ' H' g' => h σ' ρ' H' (g.trans g')
    | bk => exact fun σ' ρ' H' g' => h σ' ρ' H' (g.trans g')
    | ct => exact fun σ' ρ' H' g' => h σ' ρ' H' (g.trans g')
    | rt v => exact fun x ρ' H' g' => h x ρ' H' (g.trans g')
  | ex c S' => exact ExR.mono h g
  | no => exact h
def rdS (B : Bk) (T : List (Addr × Str)) (Z : XK) (Φ : Phi) (t : Sv.T) : TS := fun D σ H => ∃ ex ρ S sg, StR (B.wx ex) T ρ H S ∧ SgR (B.wx ex) ρ H sg σ ∧ RSt (B.wx ex) T Z ρ H (exT Φ t sg S) D
def rdSs (B : Bk) (T : List (Addr × Str)) (Z : XK) (Φ : Phi) (t : Ts) : TS := fun D σ H => ∃ ex ρ S sg, StR (B.wx ex) T ρ H S ∧ SgR (B.wx ex) ρ H sg σ ∧ RSt (B.wx ex) T Z ρ H (exs Φ t sg S) D
theorem _root_.L2.PS.of {X : Cx} {e : Stmt} {t t' : TS} (h : PS X e t) (i : ∀ D σ H, t' D σ H → t D σ H) : PS X e t' := ⟨fun pins s σ H D I q => h.run pins s σ H D I (i D σ H q)⟩
theorem _root_.L2.PSs.of {X : Cx} {e : List Stmt} {t t' : TS} (h : PSs X e t) (i : ∀ D σ H, t' D σ H → t D σ H) : PSs X e t' := ⟨fun pins s σ H D I q => h.run pins s σ H D I (i D σ H q)⟩
/-- an expression, then what f does -/
theorem RSt.bindE {e : E} {f : PV → Store → Rs (Fl × Sg)} {D : Ends} {R : VK} (st : StR (B.wx ex) T ρ H S) (sr : SgR (B.wx ex) ρ H sg σ) (h : RSt (B.wx ex) T Z ρ H ((ev Φ e sg S).bind f) D)
    (k : ∀ x ρ1 H1 v S1, Go ρ ρ1 H H1 → StR (B.wx ex) T ρ1 H1 S1 → SgR (B.wx ex) ρ1 H1 sg σ → VR (B.wx ex) ρ1 H1 v x → RSt (B.wx ex) T Z ρ1 H1 (f v S1) D → R x H1) : rdE B T Z Φ e σ H R := by
  refine ⟨ex, ρ, S, sg, st, sr, ?_⟩
  cases e1 : ev Φ e sg S with
  | ok v S1 =>
    rw [e1] at h
    exact fun x ρ1 H1 g st1 r => k x ρ1 H1 v S1 g st1 (sr.mono g) r (h.mono g)
  | ex c S1 => rw [e1] at h; exact h
  | no => rw [e1] at h; exact h
theorem RSt.bindT {e : Tst} {f : Bool → Store → Rs (Fl × Sg)} {D : Ends} {R : Bool → Hp → Prop} (st : StR (B.wx ex) T ρ H S) (sr : SgR (B.wx ex) ρ H sg σ) (h : RSt (B.wx ex) T Z ρ H ((evt Φ e sg S).bind f) D)
    (k : ∀ v ρ1 H1 S1, Go ρ ρ1 H H1 → StR (B.wx ex) T ρ1 H1 S1 → SgR (B.wx ex) ρ1 H1 sg σ → RSt (B.wx ex) T Z ρ1 H1 (f v S1) D → R v H1) : rdT B T Z Φ e σ H R := by
  refine ⟨ex, ρ, S, sg, st, sr, ?_⟩
  cases e1 : evt Φ e sg S with
  | ok v S1 =>
    rw [e1] at h
    intro x ρ1 H1 g st1 r
    cases r
    exact k v ρ1 H1 S1 g st1 (sr.mono g) (h.mono g)
  | ex c S1 => rw [e1] at h; exact h
  | no => rw [e1] at h; exact h
theorem RSt.nxG {t : Tg} {v : PV} {D : Ends} {x : V} (st : StR (B.wx ex) T ρ H S) (sr : SgR (B.wx ex) ρ H sg σ) (r : VR (B.wx ex) ρ H v x) (h : RSt (B.wx ex) T Z ρ H (nxG (evg Φ t v sg S)) D) : rdG B T Φ t x σ H D.nx := by
  refine ⟨ex, ρ, S, sg, v, st, sr, r, ?_⟩
  cases e : evg Φ t v sg S with
  | ok sg1 S1 => rw [e] at h; exact fun σ' ρ' H' g st' sr' _ => h σ' ρ' H' g st' sr'
  | ex c S1 => rw [e] at h; exact h.elim
  | no => rw [e] at h; exact h.elim
theorem ns_set {t : Tg} {ptg : Expr} (ha : PE X pa (rdE B T Z Φ a)) (hg : PG X ptg (rdG B T Φ t)) (hs : swapsWithSole [ptg] pa pos.line X.env = pure false) (hw : swappedStores [ptg] pa X.env = pure none)
    (h1 : (assignEach [ptg] X.env).map (·.2) = [assign ptg X.env]) : PS X (.Assign [ptg] pa pos) (rdS B T Z Φ (.set t a)) :=
  (ps_asg ha hg hs hw h1).of fun D σ H ⟨ex, ρ, S, sg, st, sr, h⟩ => by
    rw [exT] at h
    exact RSt.bindE st sr h fun x ρ1 H1 v S1 g1 st1 sr1 r1 h1 => h1.nxG st1 sr1 r1
theorem ns_name (si : Sit X B Z) {i : Nat} {x : Str} {p' : Pos} (hi : X.N[i]? = some x) (hx : Loc X.env.scope x) (hf : X.fn x = true ∨ X.env.scope.names.lookup x = some .local) (ha : PE X pa (rdE B T Z Φ a)) (hs : swapsWith pa (some (.Name x p')) pos.line X.env = pure false) :
    PS X (.Assign [.Name x p'] pa pos) (rdS B T Z Φ (.set (.x i) a)) :=
  (ps_set si.nd hi hx ha hs hf).of fun D σ H ⟨ex, ρ, S, sg, st, sr, h⟩ => by
    rw [exT] at h
    refine RSt.bindE st sr h fun x ρ1 H1 v S1 g1 st1 sr1 r1 h1 => ?_
    rw [evg] at h1
    exact h1 _ ρ1 H1 (Go.refl _ _) st1 (sr1.set r1)
theorem ns_par (si : Sit X B Z) {i j : Nat} {x y : Str} {px py pt pt2 : Pos} {kt k2} (hi : X.N[i]? = some x) (hj : X.N[j]? = some y) (hij : i ≠ j) (hx : X.env.scope.names.lookup x = some .local) (hy : X.env.scope.names.lookup y = some .local) (ha : PE X pa (rdE B T Z Φ a)) (hb : PE X pb (rdE B T Z Φ b))
    (h1 : starEach [pa, pb] X.env = (false, eval pa X.env) :: starEach [pb] X.env) (h2 : starEach [pb] X.env = [(false, eval pb X.env)])
    (hw : swappedStores [.Tuple [.Name x px, .Name y py] kt pt] (.Tuple [pa, pb] k2 pt2) X.env = pure (some [x, y])) (hs : swapsWithSole [.Tuple [.Name x px, .Name y py] kt pt] (.Tuple [pa, pb] k2 pt2) pos.line X.env = pure false) :
    PS X (.Assign [.Tuple [.Name x px, .Name y py] kt pt] (.Tuple [pa, pb] k2 pt2) pos) (rdS B T Z Φ (.par [i, j] (.cons a (.cons b .nil)))) :=
  (ps_par si.calm si.nd hi hj hij hx hy (pa_cons ha (pa_cons hb pa_nil h2) h1) hw hs).of fun D σ H ⟨ex, ρ, S, sg, st, sr, h⟩ => by
    rw [exT, evs_two] at h
    have h : RSt (B.wx ex) T Z ρ H ((ev Φ a sg S).bind fun u S1 => (ev Φ b sg S1).bind fun w S2 => .ok (.nx, setAll sg [i, j] [u, w]) S2) D := by
      cases e : ev Φ a sg S with
      | ok u S1 =>
        rw [e] at h
        rw [Rs.bind_ok] at h ⊢
        cases e2 : ev Φ b sg S1 with
        | ok w S2 => rw [e2] at h; exact h
        | ex c S2 => rw [e2] at h; exact h
        | no => rw [e2] at h; exact h
      | ex c S1 => rw [e] at h; exact h
      | no => rw [e] at h; exact h
    refine RSt.bindE st sr h fun x ρ1 H1 v S1 g1 st1 sr1 r1 h1 => RSt.bindE st1 sr1 h1 fun y ρ2 H2 w S2 g2 st2 sr2 r2 h2 => ⟨x, y, rfl, ?_⟩
    have r1' := r1.mono g2
    have := h2 ((σ.set i (some x)).set j (some y)) ρ2 H2 (Go.refl _ _) st2
    simp only [setAll] at this
    exact this ((sr2.set r1').set r2)
theorem ns_setDk (si : Sit X B Z) {k : String} {j p1 p2} (ha : PE X pa (rdE B T Z Φ a)) (hb : PE X pb (rdE B T Z Φ b)) (hs : swapsWithSole [.Subscript pa (.Constant (.str (Str.ofString k)) j p1) p2] pb pos.line X.env = pure false) (hw : swappedStores [.Subscript pa (.Constant (.str (Str.ofString k)) j p1) p2] pb X.env = pure none) :
    PS X (.Assign [.Subscript pa (.Constant (.str (Str.ofString k)) j p1) p2] pb pos) (rdS B T Z Φ (.setDk a k b)) :=
  (ps_asg hb (pg_sub ha pe_str (PSet.exi fun ex => setK_ok (B := B.wx ex) (T := T) (k := k) (by have := si.units; omega)) (fun _ => rfl)) hs hw (by rfl)).of fun D σ H ⟨ex, ρ, S, sg, st, sr, h⟩ => by
    rw [exT] at h
    refine RSt.bindE st sr h fun x ρ1 H1 v S1 g1 st1 sr1 r1 h1 => RSt.bindE st1 sr1 h1 fun o ρ2 H2 w S2 g2 st2 sr2 r2 h2 => ?_
    cases e : setDk w k v S2 with
    | none => rw [e] at h2; exact h2.elim
    | some S3 =>
      rw [e] at h2
      exact ⟨ex, ρ2, S2, w, v, S3, st2, r2, rfl, r1.mono g2, e, fun ρ' H' g' st' => h2 σ ρ' H' g' st' (sr2.mono g')⟩
theorem ns_ex (ha : PE X pa (rdE B T Z Φ a)) (hs : swapsWith pa none pos.line X.env = pure false) : PS X (.Expr pa pos) (rdS B T Z Φ (.ex a)) :=
  (ps_expr ha hs).of fun D σ H ⟨ex, ρ, S, sg, st, sr, h⟩ => by
    rw [exT] at h
    exact RSt.bindE st sr h fun x ρ1 H1 v S1 g1 st1 sr1 r1 h1 => h1 σ ρ1 H1 (Go.refl _ _) st1 sr1
theorem ns_app (si : Sit X B Z) {apos cpos : Pos} (ha : PE X pa (rdE B T Z Φ a)) (hb : PE X pb (rdE B T Z Φ b)) (hba : attributeBase pa "append" X.env (eval pa X.env) = eval pa X.env) (hl : (apos.endLine == cpos.line) = true) (hs : starEach [pb] X.env = [(false, eval pb X.env)]) :
    PS X (.Expr (.Call (.Attribute pa "append" apos) [pb] [] cpos) pos) (rdS B T Z Φ (.app a b)) :=
  (ps_expr (pe_bm PySem.F.plainAttrs_list PySem.F.slot_list_append (by rfl) (MtR.exi fun ex => (app_ok (X := X) (B := B.wx ex) (T := T))) ha (nd_one hb hs) hba (by rw [hs]; rfl) hl hs rfl) (by rfl)).of fun D σ H ⟨ex, ρ, S, sg, st, sr, h⟩ => by
    rw [exT] at h
    refine RSt.bindE st sr h fun x ρ1 H1 v S1 g1 st1 sr1 r1 h1 => ?_
    cases e : isLst v S1 with
    | false => rw [e] at h1; exact h1.elim
    | true =>
      rw [e] at h1
      have h1 : RSt (B.wx ex) T Z ρ1 H1 ((ev Φ b sg S1).bind fun v_1 S2 => nxS (app v v_1 S2) sg) D := h1
      refine ⟨isLst_ok (B := B.wx ex) si.K st1 r1 e, ?_⟩
      show rdEs B T Z Φ (.cons b .nil) σ H1 _
      refine ⟨ex, ρ1, S1, sg, st1, sr1, ?_⟩
      rw [evs_one]
      cases e2 : ev Φ b sg S1 with
      | ok w S2 =>
        rw [e2] at h1
        intro xs ρ2 H2 g2 st2 r2
        obtain ⟨y, z, hy, rfl, r3⟩ := one_inv r2 rfl
        cases hy
        have h2 := h1.mono g2
        rw [Rs.bind_ok] at h2
        cases e3 : app v w S2 with
        | none => rw [e3] at h2; exact h2.elim
        | some S3 =>
          rw [e3] at h2
          exact ⟨ex, ρ2, S2, v, w, z, S3, rfl, st2, r1.mono g2, r3, e3, fun ρ' H' g' st' => h2 σ ρ' H' g' st' (sr1.mono (g2.trans g'))⟩
      | ex c S2 => rw [e2] at h1; exact h1
      | no => rw [e2] at h1; exact h1
theorem ns_if {t : Tst} {x y : Ts} {px py : List Stmt} (hc : PT X pa (rdT B T Z Φ t)) (hx : PSs X px (rdSs B T Z Φ x)) (hy : PSs X py (rdSs B T Z Φ y)) : PS X (.If pa px py pos) (rdS B T Z Φ (.ifs t x y)) :=
  (ps_if hc hx hy).of fun D σ H ⟨ex, ρ, S, sg, st, sr, h⟩ => by
    rw [exT] at h
    refine RSt.bindT st sr h fun k ρ1 H1 S1 g1 st1 sr1 h1 => ?_
    cases k with
    | true => rw [if_pos rfl]; exact ⟨ex, ρ1, S1, sg, st1, sr1, h1⟩
    | false => rw [if_neg (by decide)]; exact ⟨ex, ρ1, S1, sg, st1, sr1, h1⟩
theorem ns_ret (ha : PE X pa (rdE B T Z Φ a)) : PS X (.Return (some pa) pos) (rdS B T Z Φ (.ret a)) :=
  (ps_ret ha).of fun D σ H ⟨ex, ρ, S, sg, st, sr, h⟩ => by
    rw [exT] at h
    exact RSt.bindE st sr h fun x ρ1 H1 v S1 g1 st1 sr1 r1 h1 => h1 x ρ1 H1 (Go.refl _ _) st1 r1
theorem ns_retN : PS X (.Return none pos) (rdS B T Z Φ .retN) := ps_retN.of fun D σ H ⟨ex, ρ, S, sg, st, sr, h⟩ => by rw [exT] at h; exact h _ ρ H (Go.refl _ _) st (vr_non.mpr rfl)
theorem ns_pass : PS X (.Pass pos) (rdS B T Z Φ .pass) := ps_pass.of fun D σ H ⟨ex, ρ, S, sg, st, sr, h⟩ => by rw [exT] at h; exact h σ ρ H (Go.refl _ _) st sr
theorem nss_nil : PSs X [] (rdSs B T Z Φ .nil) := pss_nil.of fun D σ H ⟨ex, ρ, S, sg, st, sr, h⟩ => by rw [exs] at h; exact h σ ρ H (Go.refl _ _) st sr
theorem nss_cons {ps : Stmt} {pr : List Stmt} {t : Sv.T} {r : Ts} (h1 : PS X ps (rdS B T Z Φ t)) (h2 : PSs X pr (rdSs B T Z Φ r)) : PSs X (ps :: pr) (rdSs B T Z Φ (.cons t r)) :=
  (pss_cons h1 h2).of fun D σ H ⟨ex, ρ, S, sg, st, sr, h⟩ => by
    rw [exs] at h
    refine ⟨ex, ρ, S, sg, st, sr, ?_⟩
    cases e : exT Φ t sg S with
    | ok q S1 =>
      rw [e] at h
      obtain ⟨f, sg1⟩ := q
      cases f with
      | nx => exact fun σ1 ρ1 H1 g1 st1 sr1 => ⟨ex, ρ1, S1, sg1, st1, sr1, RSt.mono (r := exs Φ r sg1 S1) h g1⟩
      | bk => exact h
      | ct => exact h
      | rt v => exact h
    | ex c S1 => rw [e] at h; exact h
    | no => rw [e] at h; exact h
end
end Sv
end

section
set_option Elab.async false
set_option linter.all false
set_option maxRecDepth 100000
set_option maxHeartbeats 2000000
namespace Sv
open PySem PySem.Spec PyProof.Rows L2
section
variable {B : Bk} {T : List (Addr × Str)} {Z : XK} {Φ : Phi} {ex ρ ρ' : List Addr} {H H' : Hp} {S : Store} {sg : Sg} {σ : L2.St}
variable {X : Cx} {pa pb pe tg iter : Expr} {a b e : E} {pos p pos' : Pos}
/-- o[i] += e -/
theorem ns_augIx (si : Sit X B Z) {tpos : Pos} (ha : PE X pa (rdE B T Z Φ a)) (hb : PE X pb (rdE B T Z Φ b)) (he : PE X pe (rdE B T Z Φ e)) (hs : ∀ ov iv new, augStore pb ov iv new = (do holding [new, ov, iv] (setItem ov iv new); release [new, ov, iv] []; pure .next)) :
    PS X (.AugAssign (.Subscript pa pb tpos) .Add pe pos) (rdS B T Z Φ (.augIx a b e)) :=
  (ps_augS ha hb (PGet.exi fun ex => get_ok (X := X) (B := B.wx ex) (T := T)) he ip_add (PSet.exi fun ex => set_ok (B := B.wx ex) (T := T) (by have := si.units; omega)) hs).of fun D σ H ⟨ex, ρ, S, sg, st, sr, h⟩ => by
    rw [exT] at h
    refine RSt.bindE st sr h fun x ρ1 H1 v S1 g1 st1 sr1 r1 h1 => RSt.bindE st1 sr1 h1 fun y ρ2 H2 w S2 g2 st2 sr2 r2 h2 => ?_
    cases eL : locL v S2 with
    | false => rw [eL] at h2; exact h2.elim
    | true =>
      rw [eL] at h2
      replace h2 : RSt (B.wx ex) T Z ρ2 H2 ((index v w S2).bind fun z S3 => (ev Φ e sg S3).bind fun u S4 => augV v w (augI z u) sg S4) D := h2
      unfold locL at eL
      split at eL
      · rename_i l
        split at eL
        · rename_i xs hl
          unfold index at h2
          split at h2
          · rename_i k
            have hi : items (.loc l) S2 = some xs := by simp [items, hl]
            rw [hi] at h2
            dsimp only at h2
            split at h2
            · rename_i u hu
              refine ⟨ex, ρ2, S2, l, k, xs, st2, r1.mono g2, vr_int.mp r2, hl, u, hu, fun z ρ3 H3 g3 st3 r3 => ?_⟩
              have h3 := h2.mono g3
              rw [Rs.bind_ok] at h3
              refine RSt.bindE st3 (sr2.mono g3) h3 fun t ρ4 H4 vt S4 g4 st4 sr4 r4 h4 => ?_
              unfold augI at h4
              split at h4
              · rename_i i j
                have r3' := r3.mono g4
                refine ⟨i, j, vr_int.mp r3', vr_int.mp r4, ?_⟩
                unfold augV at h4
                dsimp only at h4
                cases es : setIx (.loc l) (.int k) (.int (i + j)) S4 with
                | none => rw [es] at h4; exact h4.elim
                | some S5 =>
                  rw [es] at h4
                  exact ⟨ex, ρ4, S4, .loc l, .int k, .int (i + j), S5, st4, (r1.mono g2).mono (g3.trans g4), r2.mono (g3.trans g4), vr_int.mpr rfl, es, fun ρ5 H5 g5 st5 => h4 σ ρ5 H5 g5 st5 (sr4.mono g5)⟩
              · exact h4.elim
            · exact h2.elim
          · exact h2.elim
        · cases eL
      · cases eL
/-- self.f = e -/
theorem ns_setAt (si : Sit X B Z) (ca : ClsAll B) {f : Str} {C j : Nat} (hf : (B.flds C)[j]? = some f) (ha : PE X pa (rdE B T Z Φ a)) (hv : PE X pe (rdE B T Z Φ e)) (hs : swapsWith pe (some (.Attribute pa f pos')) pos.line X.env = pure false) :
    PS X (.Assign [.Attribute pa f pos'] pe pos) (rdS B T Z Φ (.setAt a C j e)) :=
  (ps_fld ha hv hs).of fun D σ H ⟨ex, ρ, S, sg, st, sr, h⟩ => by
    rw [exT] at h
    refine RSt.bindE st sr h fun x ρ1 H1 v S1 g1 st1 sr1 r1 h1 => RSt.bindE st1 sr1 h1 fun y ρ2 H2 w S2 g2 st2 sr2 r2 h2 => ?_
    unfold setAttr at h2
    split at h2
    · rename_i l
      split at h2
      · rename_i D' fs hl
        split at h2
        · rename_i hC
          obtain ⟨rfl, hlen⟩ := hC
          obtain ⟨p, ep, hp⟩ := vr_loc.mp r2
          obtain ⟨c, dx, vfs, q1, q2, q3, q4, q5⟩ := st2.cl l p _ hp hl
          obtain ⟨k1, _, _, k4, k5, k6⟩ := ca.cls D' c q2
          rw [si.K] at k1 k4
          have hfl := q5.length
          rw [List.length_map] at hfl
          have hjl : j < (B.flds D').length := (List.getElem?_eq_some_iff.mp hf).1
          refine ⟨p, c, dx, vfs, ep, q1, k1, k4 f (List.mem_of_getElem? hf), by omega, ?_⟩
          have hnl : f ∉ vfs.map (·.1) := fun hm => by
            rw [q3] at hm
            obtain ⟨i, hi, e1⟩ := List.mem_take_iff_getElem.mp hm
            have e2 := (List.getElem?_eq_some_iff.mp hf).2
            have := (List.getElem_inj k5).mp (e1.trans e2.symm)
            omega
          have hput : ∀ {vfs : List (Str × V)}, f ∉ vfs.map (·.1) → putF f x vfs = vfs ++ [(f, x)] := fun {vfs} => by
            induction vfs with
            | nil => intro _; rfl
            | cons q r ih =>
              intro hn
              obtain ⟨g, u⟩ := q
              simp only [List.map_cons, List.mem_cons, not_or] at hn
              unfold putF
              rw [if_neg (fun z => hn.1 z.symm), ih hn.2]
              rfl
          rw [hput hnl]
          obtain ⟨st3, g3⟩ := st2.write (c := .ins D' (fs ++ [v])) (o := .ins c dx (vfs ++ [(f, x)])) hp fun g => ⟨c, dx, _, upd_same, q2, by
            rw [List.map_append, q3, List.length_append, hlen]
            show _ = (B.flds D').take (j + 1)
            rw [List.take_add_one, hf]; rfl, by
            rw [List.length_append, hlen]; exact hjl, by
            rw [List.map_append]
            exact (q5.mono g).append (.cons ((r1.mono g2).mono g) .nil)⟩
          exact h2 σ ρ2 _ g3 st3 (sr2.mono g3)
        · exact h2.elim
      · exact h2.elim
    · exact h2.elim
/-- raise X('m') -/
theorem ns_raise (si : Sit X B Z) {C k : Nat} {z : String} {x : Str} {j p1 p2} (hk : B.exc C = some k) (hm : PMk X (.Call (.Name x p1) [.Constant (.str (Str.ofString z)) j p2] [] pos') (fun _ H Q => Q (.ref k) none H)) :
    PS X (.Raise (some (.Call (.Name x p1) [.Constant (.str (Str.ofString z)) j p2] [] pos')) none pos) (rdS B T Z Φ (.raise C 0 (.cons (.ks z) .nil))) :=
  (ps_raise si.calm si.takes hm).of fun D σ H ⟨ex, ρ, S, sg, st, sr, h⟩ => by
    rw [exT, evs_one, ev] at h
    exact h ρ H C k (Go.refl _ _) st rfl hk
theorem ns_while {t : Tst} {y : Ts} {py : List Stmt} (own : PassesOwn (model X.prog X.w) X.A X.env X.xe) (hc : PT X pa (rdT B T Z Φ t)) (hy : PSs X py (rdSs B T Z Φ y)) : PS X (.While pa py [] pos) (rdS B T Z Φ (.while t y)) :=
  (ps_while own hc hy).of fun D σ H ⟨ex, ρ, S, sg, st, sr, h⟩ => by
    rw [exT] at h
    refine ⟨fun m σ H => ∃ ρ S sg r, StR (B.wx ex) T ρ H S ∧ SgR (B.wx ex) ρ H sg σ ∧ whN (fun σ S => evt Φ t σ S) (fun σ S => exs Φ y σ S) m sg S = some r ∧ RSt (B.wx ex) T Z ρ H r D, ?_, ?_⟩
    · by_cases hx : ∃ n r, whN (fun σ S => evt Φ t σ S) (fun σ S => exs Φ y σ S) n sg S = some r
      · obtain ⟨n, r, e⟩ := hx
        rw [whl_of e] at h
        exact ⟨n, ρ, S, sg, r, st, sr, e, h⟩
      · unfold whl at h
        rw [dif_neg hx] at h
        exact h.elim
    · rintro m σ H ⟨ρ, S, sg, r, st, sr, e, h⟩
      cases m with
      | zero => cases e
      | succ m =>
        refine ⟨ex, ρ, S, sg, st, sr, ?_⟩
        unfold whN at e
        cases e1 : evt Φ t sg S with
        | ok k S1 =>
          rw [e1] at e
          intro b ρ1 H1 g1 st1 hb
          cases hb
          have h1 := h.mono g1
          cases k with
          | false =>
            cases e
            rw [if_neg (by decide)]
            exact h1 σ ρ1 H1 (Go.refl _ _) st1 (sr.mono g1)
          | true =>
            rw [if_pos rfl]
            refine ⟨fun σ H => ∃ ρ S sg r, StR (B.wx ex) T ρ H S ∧ SgR (B.wx ex) ρ H sg σ ∧ whN (fun σ S => evt Φ t σ S) (fun σ S => exs Φ y σ S) m sg S = some r ∧ RSt (B.wx ex) T Z ρ H r D, fun σ' H' q => ⟨m, by omega, q⟩, ex, ρ1, S1, sg, st1, sr.mono g1, ?_⟩
            cases e2 : exs Φ y sg S1 with
            | ok q S2 =>
              obtain ⟨f, sg2⟩ := q
              cases f with
              | nx =>
                simp only [e2] at e
                exact fun σ' ρ' H' g' st' sr' => ⟨ρ', S2, _, r, st', sr'.mask, e, h1.mono g'⟩
              | ct =>
                simp only [e2] at e
                exact fun σ' ρ' H' g' st' sr' => ⟨ρ', S2, _, r, st', sr'.mask, e, h1.mono g'⟩
              | bk =>
                simp only [e2] at e
                cases e
                exact fun σ' ρ' H' g' st' sr' => h1 σ' ρ' H' g' st' sr'.mask
              | rt v =>
                simp only [e2] at e
                cases e
                exact h1
            | ex c S2 => simp only [e2] at e; cases e; exact h1
            | no => simp only [e2] at e; cases e; exact h1.elim
        | ex c S1 => rw [e1] at e; cases e; exact h
        | no => rw [e1] at e; cases e; exact h.elim
theorem ns_for {t : Tg} {it : It} {y : Ts} {py : List Stmt} (own : PassesOwn (model X.prog X.w) X.A X.env X.xe) (si : Sit X B Z) (hi : PI X tg iter (rdI B T Z Φ it)) (hg : PG X tg (rdG B T Φ t)) (hy : PSs X py (rdSs B T Z Φ y)) (hs : ∀ x, foldedSetIterable iter X.env x = pure x) :
    PS X (.For tg iter py [] pos) (rdS B T Z Φ (.for t it y)) :=
  (ps_for own si.calm hi hg hy hs).of fun D σ H ⟨ex, ρ, S, sg, st, sr, h⟩ => by
    rw [exT] at h
    show rdI B T Z Φ it σ H _
    refine ⟨ex, ρ, S, sg, st, sr, ?_⟩
    cases e0 : evi Φ it sg S with
    | ok w S0 =>
      rw [e0] at h
      obtain ⟨gs, xs⟩ := w
      intro J ρ0 H0 g0 st0 itr
      have h0 : RSt (B.wx ex) T Z ρ0 H0 (forGo (stand gs S0) (fun v σ S => evg Φ t v σ S) (fun σ S => exs Φ y σ S) xs sg S0) D := RSt.mono h g0
      refine ⟨fun i m σ H => m = xs.length - i ∧ i ≤ xs.length ∧ ∃ ρ S sg, Go ρ0 ρ H0 H ∧ StR (B.wx ex) T ρ H S ∧ SgR (B.wx ex) ρ H sg σ ∧ RSt (B.wx ex) T Z ρ H (forGo (stand gs S0) (fun v σ S => evg Φ t v σ S) (fun σ S => exs Φ y σ S) (xs.drop i) sg S) D, ⟨_, rfl, Nat.zero_le _, ρ0, S0, sg, Go.refl _ _, st0, sr.mono g0, h0⟩, ?_⟩
      rintro i m σ1 H1 ⟨rfl, hi, ρ1, S1, sg1, g1, st1, sr1, h1⟩
      by_cases hst : stand gs S0 S1
      · obtain ⟨q1, q2⟩ := itr i ex ρ1 H1 S1 ⟨g1, fun a ha => .inl ha⟩ st1 hst
        by_cases hlt : i < xs.length
        · have hd : xs.drop i = xs[i] :: xs.drop (i + 1) := by simp [hlt]
          rw [hd] at h1
          obtain ⟨go, yl⟩ := q1 xs[i] (by simp [hlt])
          refine .inr ⟨go, fun σ H => i + 1 ≤ xs.length ∧ ∃ ρ S sg, Go ρ0 ρ H0 H ∧ StR (B.wx ex) T ρ H S ∧ SgR (B.wx ex) ρ H sg σ ∧ RSt (B.wx ex) T Z ρ H (forGo (stand gs S0) (fun v σ S => evg Φ t v σ S) (fun σ S => exs Φ y σ S) (xs.drop (i + 1)) sg S) D,
            fun σ' H' q => ⟨xs.length - (i + 1), by omega, rfl, q⟩, fun x H2 hy => ?_⟩
          obtain ⟨g2, st2, r2⟩ := yl x H2 hy
          unfold forGo at h1
          rw [if_pos hst] at h1
          refine ⟨ex, ρ1, S1, sg1, xs[i], st2, sr1.mono g2, r2, ?_⟩
          cases e2 : evg Φ t xs[i] sg1 S1 with
          | ok sg3 S3 =>
            simp only [e2] at h1
            intro σ3 ρ3 H3 g3 st3 sr3 _
            refine ⟨ex, ρ3, S3, sg3, st3, sr3, ?_⟩
            have g4 := g1.trans (g2.trans g3)
            have h3 := h1.mono (g2.trans g3)
            cases e3 : exs Φ y sg3 S3 with
            | ok q S4 =>
              obtain ⟨f, sg4⟩ := q
              cases f with
              | nx =>
                simp only [e3] at h3
                exact fun σ' ρ' H' g' st' sr' => ⟨hlt, ρ', S4, _, g4.trans g', st', sr'.mask, h3.mono g'⟩
              | ct =>
                simp only [e3] at h3
                exact fun σ' ρ' H' g' st' sr' => ⟨hlt, ρ', S4, _, g4.trans g', st', sr'.mask, h3.mono g'⟩
              | bk =>
                simp only [e3] at h3
                exact fun σ' ρ' H' g' st' sr' => h3 σ' ρ' H' g' st' sr'.mask
              | rt v =>
                simp only [e3] at h3
                exact h3
            | ex c S4 => simp only [e3] at h3; exact h3
            | no => simp only [e3] at h3; exact h3.elim
          | ex c S3 => simp only [e2] at h1; exact h1.elim
          | no => simp only [e2] at h1; exact h1.elim
        · have hie : i = xs.length := by omega
          subst hie
          rw [List.drop_length] at h1
          unfold forGo at h1
          rw [if_pos hst] at h1
          exact .inl ⟨q2 rfl, h1 σ1 ρ1 H1 (Go.refl _ _) st1 sr1⟩
      · exfalso
        cases hd : xs.drop i with
        | nil => rw [hd] at h1; unfold forGo at h1; rw [if_neg hst] at h1; exact h1
        | cons v r => rw [hd] at h1; unfold forGo at h1; rw [if_neg hst] at h1; exact h1
    | ex c S1 => rw [e0] at h; exact h
    | no => rw [e0] at h; exact h
end
end Sv
end

section
set_option Elab.async false
set_option linter.all false
set_option maxRecDepth 100000
set_option maxHeartbeats 2000000
/-! comprehensions -/
namespace Sv
open PySem PySem.Spec PyProof.Rows L2
theorem wipe_get (σ : L2.St) (i : Nat) : ∀ vs : List Nat, (wipe σ vs)[i]? = if i ∈ vs then (σ[i]?).map fun _ => none else σ[i]?
  | [] => by simp [wipe]
  | v :: vs => by
    unfold wipe
    by_cases h : v = i
    · subst h
      rw [List.getElem?_set_self']
      rw [wipe_get σ v vs]
      split <;> (simp; rfl)
    · rw [List.getElem?_set_ne h, wipe_get σ i vs]
      have : (i ∈ v :: vs) ↔ i ∈ vs := by simp [Ne.symm h]
      simp only [this]
theorem wipe_only {l vs : List Nat} {σ σ' : L2.St} (o : Only l (wipe σ vs) σ') (h : ∀ i ∈ l, i ∈ vs) : wipe σ' vs = wipe σ vs := by
  apply List.ext_getElem?
  intro i
  rw [wipe_get, wipe_get]
  by_cases hi : i ∈ vs
  · rw [if_pos hi, if_pos hi]
    have hl : σ'.length = σ.length := by rw [o.1, wipe_length]
    by_cases hlt : i < σ.length
    · rw [List.getElem?_eq_getElem hlt, List.getElem?_eq_getElem (by omega)]; rfl
    · rw [List.getElem?_eq_none (by omega), List.getElem?_eq_none (by omega)]
  · rw [if_neg hi, if_neg hi, o.2 i (fun z => hi (h i z)), wipe_get, if_neg hi]
theorem getS_none {sg : Sg} {i j : Nat} {w : PV} (h : getS (setS sg i none) j = some w) : j ≠ i ∧ getS sg j = some w := by
  induction sg generalizing i j with
  | nil => cases i <;> cases j <;> cases h
  | cons a r ih =>
    cases i with
    | zero =>
      cases j with
      | zero => cases h
      | succ j => exact ⟨by omega, h⟩
    | succ i =>
      cases j with
      | zero => exact ⟨by omega, h⟩
      | succ j =>
        obtain ⟨h1, h2⟩ := ih (i := i) (j := j) h
        exact ⟨by omega, h2⟩
theorem getS_wipe {sg : Sg} {j : Nat} {w : PV} : ∀ {vs : List Nat}, getS (wipeS sg vs) j = some w → j ∉ vs ∧ getS sg j = some w
  | [], h => ⟨by simp, h⟩
  | v :: vs, h => by
    obtain ⟨h1, h2⟩ := getS_none h
    obtain ⟨h3, h4⟩ := getS_wipe h2
    exact ⟨by simp only [List.mem_cons, not_or]; exact ⟨h1, h3⟩, h4⟩
theorem wipeS_length (sg : Sg) : ∀ vs : List Nat, (wipeS sg vs).length = sg.length
  | [] => rfl
  | v :: vs => by unfold wipeS; rw [setS_length, wipeS_length sg vs]
section
variable {B : Bk} {T : List (Addr × Str)} {Z : XK} {Φ : Phi} {ex ρ ρ' : List Addr} {H H' : Hp} {S : Store} {sg : Sg} {σ : L2.St} {D : Addr} {o o' : HO}
theorem SgR.wipe (h : SgR B ρ H sg σ) (vs : List Nat) : SgR B ρ H (wipeS sg vs) (L2.wipe σ vs) := by
  refine ⟨by rw [wipeS_length, wipe_length]; exact h.1, fun i v e => ?_⟩
  obtain ⟨h1, h2⟩ := getS_wipe e
  obtain ⟨x, e2, r⟩ := h.2 i v h2
  exact ⟨x, by rw [wipe_get, if_neg h1]; exact e2, r⟩
theorem SgR.lat {ex' ρ1 : List Addr} {H1 : Hp} (h : SgR (B.wx ex) ρ1 H1 sg σ) (l : Lat ex ex' ρ1 ρ' H1 H') : SgR (B.wx ex') ρ' H' sg σ := ⟨h.1, fun i v e => let ⟨x, e1, r⟩ := h.2 i v e; ⟨x, e1, l.vr r⟩⟩
/-- what is being made is written -/
theorem upd_vrs {xs : List PV} {vs : List V} (r : VRs (B.wx (D :: ex)) ρ H xs vs) : VRs (B.wx (D :: ex)) ρ (upd H D o') xs vs :=
  r.turn (B := B.wx (D :: ex)) (B' := B.wx (D :: ex)) rfl rfl rfl rfl rfl (fun a u ha e => ⟨by rw [upd_ne (out_res.mp ha).2]; exact e, ha⟩) fun _ _ h => h
theorem upd_vr {xs : PV} {vs : V} (r : VR (B.wx (D :: ex)) ρ H xs vs) : VR (B.wx (D :: ex)) ρ (upd H D o') xs vs :=
  r.turn (B := B.wx (D :: ex)) (B' := B.wx (D :: ex)) rfl rfl rfl rfl rfl (fun a u ha e => ⟨by rw [upd_ne (out_res.mp ha).2]; exact e, ha⟩) fun _ _ h => h
theorem upd_st (st : StR (B.wx (D :: ex)) T ρ H S) (hD : H D = some o) (ho : (∀ ps, o ≠ .tbl ps) ∧ ∀ φ, o ≠ .ext φ) (ho' : (∀ ps, o' ≠ .tbl ps) ∧ ∀ φ, o' ≠ .ext φ) : StR (B.wx (D :: ex)) T ρ (upd H D o') S := by
  have np : D ∉ ρ := fun h => st.ex D h List.mem_cons_self
  refine ⟨st.len, st.nd, fun i a c e1 e2 => ?_, tabs_upd st.tabs hD ho, st.ex, fun a ha => ?_⟩
  · exact (st.cl i a c e1 e2).turn (B := B.wx (D :: ex)) (B' := B.wx (D :: ex)) rfl rfl rfl rfl rfl (fun a u ha e => ⟨by rw [upd_ne (out_res.mp ha).2]; exact e, ha⟩) (fun _ _ h => h) (upd_ne fun z => np (z ▸ List.mem_of_getElem? e1))
  · by_cases h : a = D
    · rw [h]; exact ⟨o', upd_same, ho'⟩
    · rw [upd_ne h]; exact st.exs a ha
theorem go_upd (g : Go ρ ρ' H H') (hD : H D = none) : Go ρ ρ' H (upd H' D o') := by
  have ne : ∀ a u, H a = some u → a ≠ D := fun a u e z => by rw [z, hD] at e; cases e
  refine ⟨g.ext, g.new, fun a u e hn ht => by rw [upd_ne (ne a u e)]; exact g.keep a u e hn ht, fun a e => ?_⟩
  by_cases h : a = D
  · rw [h, upd_same]; simp
  · rw [upd_ne h]; exact g.live a e
theorem upd_id (h : H D = some o) : upd H D o = H := by
  funext b
  by_cases hb : b = D
  · rw [hb, upd_same, h]
  · rw [upd_ne hb]
def rdC (B : Bk) (T : List (Addr × Str)) (Z : XK) (Φ : Phi) (c : Ct) : TT := fun σ H Q => ∃ ex ρ S sg, StR (B.wx ex) T ρ H S ∧ SgR (B.wx ex) ρ H sg σ ∧ RG (B.wx ex) T Z eqR ρ H (evc Φ c sg S) Q
theorem _root_.L2.PTs.of {X : Cx} {e : List Expr} {t t' : TT} (h : PTs X e t) (i : ∀ σ H Q, t' σ H Q → t σ H Q) : PTs X e t' := ⟨fun pins s σ H Q I q => h.run pins s σ H Q I (i σ H Q q)⟩
variable {X : Cx} {pa : Expr}
theorem nc_none : PTs X [] (rdC B T Z Φ .none) := pts_nil.of fun σ H Q ⟨ex, ρ, S, sg, st, sr, h⟩ => by rw [evc] at h; exact RG.ok h st rfl
theorem nc_some {t : Tst} (h : PT X pa (rdT B T Z Φ t)) : PTs X [pa] (rdC B T Z Φ (.some t)) := (pts_one h).of fun σ H Q ⟨ex, ρ, S, sg, st, sr, h⟩ => by rw [evc] at h; exact ⟨ex, ρ, S, sg, st, sr, h⟩
abbrev Z0 : XK := fun _ _ _ => False
theorem lc_read {m : Bool} {own : List Nat} {t : Tg} {it : It} {c : Ct} {e : E} {Q : VK} (hsub : ∀ i ∈ tgN t, i ∈ own) (h : rdE B T Z Φ (.lc m own t it c e) σ H Q) : tLc (rdI B T Z Φ it) (rdG B T Φ t) (rdC B T Z0 Φ c) (rdE B T Z0 Φ e) own σ H Q := by
  obtain ⟨ex, ρ, S, sg, st, sr, h⟩ := h
  rw [ev] at h
  show rdI B T Z Φ it σ H _
  refine ⟨ex, ρ, S, sg, st, sr, ?_⟩
  cases e0 : evi Φ it sg S with
  | ex c S1 => rw [e0] at h; exact h
  | no => rw [e0] at h; exact h
  | ok w S0 =>
    rw [e0] at h
    obtain ⟨gs, xs⟩ := w
    intro J ρ0 H0 g0 st0 itr D hD
    have h0 : RG (B.wx ex) T Z (VR (B.wx ex)) ρ0 H0 (lenG xs ((lcGo own (wipeS sg own) (stand gs S0) (fun v σ S => evg Φ t v σ S) (fun σ S => evc Φ c σ S) (fun σ S => ev Φ e σ S) xs [] S0).bind fun xs S2 => mkL m xs S2)) Q := RG.mono h g0
    unfold lenG at h0
    split at h0
    rotate_left
    · exact h0.elim
    rename_i hlen
    have hDe : D ∉ ex := fun z => by obtain ⟨u, hu, _⟩ := st0.exs D z; rw [hD] at hu; cases hu
    have sr0 := sr.mono g0
    have lat : ∀ {ρ1 : List Addr} {H1 : Hp}, Go ρ0 ρ1 H0 H1 → Lat ex (D :: ex) ρ0 ρ1 H0 H1 := fun g => ⟨g, fun a ha => by
      rcases List.mem_cons.mp ha with rfl | ha
      · exact .inr hD
      · exact .inl ha⟩
    have nt : ∀ vs : List V, (∀ ps, HO.lst vs ≠ .tbl ps) ∧ ∀ φ, HO.lst vs ≠ .ext φ := fun vs => ⟨(fun _ z => by cases z), fun _ z => by cases z⟩
    let Inv : Nat → Hp → Prop := fun i H => i ≤ xs.length ∧ ∃ ρ S acc accV, Go ρ0 ρ H0 H ∧ StR (B.wx (D :: ex)) T ρ H S ∧ H D = some (.lst accV) ∧ VRs (B.wx (D :: ex)) ρ H acc accV ∧ acc.length ≤ i ∧
      RG (B.wx ex) T Z (VR (B.wx ex)) ρ0 H0 ((lcGo own (wipeS sg own) (stand gs S0) (fun v σ S => evg Φ t v σ S) (fun σ S => evc Φ c σ S) (fun σ S => ev Φ e σ S) (xs.drop i) acc S).bind fun xs S2 => mkL m xs S2) Q
    refine ⟨fun i m H => m = xs.length - i ∧ Inv i H, ⟨_, rfl, Nat.zero_le _, ρ0, S0, [], [], go_upd (Go.refl _ _) hD, res_st st0 hD (nt _), upd_same, .nil, Nat.le_refl _, h0⟩, ?_⟩
    rintro i m' H1 ⟨rfl, hi, ρ1, S1, acc, accV, g1, st1, hH1, racc, hacc, h1⟩
    by_cases hst : stand gs S0 S1
    · obtain ⟨q1, q2⟩ := itr i (D :: ex) ρ1 H1 S1 (lat g1) st1 hst
      by_cases hlt : i < xs.length
      · have hd : xs.drop i = xs[i] :: xs.drop (i + 1) := by simp [hlt]
        rw [hd] at h1
        obtain ⟨go, yl⟩ := q1 xs[i] (by simp [hlt])
        refine .inr ⟨go, Inv (i + 1), fun H' q => ⟨xs.length - (i + 1), by omega, rfl, q⟩, fun x H2 hy => ?_⟩
        obtain ⟨g2, st2, r2⟩ := yl x H2 hy
        unfold lcGo at h1
        rw [if_pos hst] at h1
        have g12 := g1.trans g2
        refine ⟨D :: ex, ρ1, S1, wipeS sg own, xs[i], st2, (sr0.wipe own).lat (lat g12), r2, ?_⟩
        cases e2 : evg Φ t xs[i] (wipeS sg own) S1 with
        | ex c S3 => simp only [e2] at h1; exact h1.elim
        | no => simp only [e2] at h1; exact h1.elim
        | ok sg3 S3 =>
          simp only [e2] at h1
          intro σ3 ρ3 H3 g3 st3 sr3 o3
          refine ⟨wipe_only o3 hsub, D :: ex, ρ3, S3, sg3, st3, sr3, ?_⟩
          have kD : ∀ {ρa ρb : List Addr} {Ha Hb : Hp} {Sa : Store}, StR (B.wx (D :: ex)) T ρa Ha Sa → Go ρa ρb Ha Hb → Ha D = some (.lst accV) → Hb D = some (.lst accV) := fun st g hh =>
            g.keep D _ hh (fun z => st.ex D z List.mem_cons_self) (nt _).1
          have hH3 : H3 D = some (.lst accV) := kD st2 g3 (kD st1 g2 hH1)
          have racc3 := (racc.mono g2).mono g3
          cases e3 : evc Φ c sg3 S3 with
          | ex c S4 => simp only [e3] at h1; exact h1.elim
          | no => simp only [e3] at h1; exact h1.elim
          | ok k S4 =>
            intro b ρ4 H4 g4 st4 hb
            cases hb
            have hH4 := kD st3 g4 hH3
            have racc4 := racc3.mono g4
            have g14 := (g12.trans g3).trans g4
            cases k with
            | false =>
              simp only [e3] at h1
              rw [if_neg (by decide)]
              exact ⟨hlt, ρ4, S4, acc, accV, g14, st4, hH4, racc4, by omega, h1⟩
            | true =>
              simp only [e3] at h1
              rw [if_pos rfl]
              refine ⟨D :: ex, ρ4, S4, sg3, st4, sr3.mono g4, ?_⟩
              cases e4 : ev Φ e sg3 S4 with
              | ex c S5 => simp only [e4] at h1; exact h1.elim
              | no => simp only [e4] at h1; exact h1.elim
              | ok w S5 =>
                simp only [e4] at h1
                intro y ρ5 H5 g5 st5 r5
                have hH5 := kD st4 g5 hH4
                have racc5 := racc4.mono g5
                have hl := racc.length
                have hll := line_le
                refine ⟨accV, hH5, by omega, hlt, ρ5, S5, acc ++ [w], accV ++ [y], go_upd (g14.trans g5) hD, upd_st st5 hH5 (nt _) (nt _), upd_same, ?_, by simp; omega, h1⟩
                exact (upd_vrs racc5).append (.cons (upd_vr r5) .nil)
      · have hie : i = xs.length := by omega
        subst hie
        rw [List.drop_length] at h1
        unfold lcGo at h1
        rw [if_pos hst] at h1
        refine .inl ⟨q2 rfl, ?_⟩
        rw [Rs.bind_ok] at h1
        cases m with
        | false =>
          obtain ⟨st', o⟩ := done_val (o' := .lst accV) st1 hDe hH1 (nt _)
          rw [upd_id hH1] at st'
          refine h1 (.ref D) ρ1 H1 g1 st' (vr_lst.mpr ⟨D, accV, rfl, hH1, o, ?_⟩)
          have := done_vrs (o' := .lst accV) (ρ' := ρ1) (fun a ha => .inl ha) (fun _ _ h => h) racc
          rw [upd_id hH1] at this
          exact this
        | true =>
          have hr : ∀ a ∈ ρ1 ++ [D], a ∈ ρ1 ∨ a = D := fun a ha => by simpa using ha
          have hpre : ∀ (i : Nat) a, ρ1[i]? = some a → (ρ1 ++ [D])[i]? = some a := fun i a h => by
            rw [List.getElem?_append_left (List.getElem?_eq_some_iff.mp h).1]; exact h
          have rs := done_vrs (o' := .lst accV) hr hpre racc
          have st' := done_st (o' := .lst accV) (c := .lst acc) st1 hDe hH1 (nt _) ⟨accV, upd_same, rs⟩
          rw [upd_id hH1] at st'
          refine h1 (.ref D) (ρ1 ++ [D]) H1 ⟨g1.ext.trans (List.prefix_append _ _), fun a ha => ?_, g1.keep, g1.live⟩ st' (vr_loc.mpr ⟨D, rfl, by rw [← st1.len]; simp⟩)
          rcases hr a ha with z | z
          · exact g1.new a z
          · exact .inr (z ▸ hD)
    · exfalso
      cases hd : xs.drop i with
      | nil => rw [hd] at h1; unfold lcGo at h1; rw [if_neg hst] at h1; exact h1
      | cons v r => rw [hd] at h1; unfold lcGo at h1; rw [if_neg hst] at h1; exact h1
end
end Sv
namespace Sv
open PySem PySem.Spec PyProof.Rows L2
section
variable {B : Bk} {T : List (Addr × Str)} {Z : XK} {Φ : Phi} {X : Cx} {elt tg iter : Expr} {ifs : List Expr} {scope : Scope} {own : List (Str × Nat)} {pos : Pos}
theorem nd_lc (si : Sit X B Z) {m : Bool} {t : Tg} {it : It} {c : Ct} {e : E} (hi : PI X tg iter (rdI B T Z Φ it)) (ok : BlkOk X.N X.env.scope scope own)
    (hg : ∀ (s : Shared) (H : Hp) (C : Addr) (cl : List (Str × Addr)) (fp : List Addr), PG (X.blk s H scope (compEnvC scope cl C X.env) fp) tg (rdG B T Φ t)) (ht : ∀ (s : Shared) (H : Hp) (C : Addr) (cl : List (Str × Addr)) (fp : List Addr), PTs (X.blk s H scope (compEnvC scope cl C X.env) fp) ifs (rdC B T Z0 Φ c))
    (he : ∀ (s : Shared) (H : Hp) (C : Addr) (cl : List (Str × Addr)) (fp : List Addr), PE (X.blk s H scope (compEnvC scope cl C X.env) fp) elt (rdE B T Z0 Φ e)) (hs : ∀ x, foldedSetIterable iter X.env x = pure x) (hsub : ∀ i ∈ tgN t, i ∈ own.map (·.2)) :
    PE X (.ListComp elt [⟨tg, iter, ifs, 0⟩] scope pos) (rdE B T Z Φ (.lc m (own.map (·.2)) t it c e)) :=
  (pe_lc si.calm si.nd hi ok hg ht he hs).of fun σ H Q h => lc_read hsub h
theorem ns_setLc (si : Sit X B Z) {m : Bool} {t : Tg} {it : It} {c : Ct} {e : E} {i : Nat} {y : Str} {py spos : Pos} (hy : X.N[i]? = some y) (hyl : X.env.scope.names.lookup y = some .local)
    (hsw : swapsWith (.ListComp elt [⟨tg, iter, ifs, 0⟩] scope pos) (some (.Name y py)) spos.line X.env = pure true) (hi : PI X tg iter (rdI B T Z Φ it)) (ok : BlkOk X.N X.env.scope scope own)
    (hg : ∀ (s : Shared) (H : Hp) (C : Addr) (cl : List (Str × Addr)) (fp : List Addr), PG (X.blk s H scope (compEnvC scope cl C X.env) fp) tg (rdG B T Φ t)) (ht : ∀ (s : Shared) (H : Hp) (C : Addr) (cl : List (Str × Addr)) (fp : List Addr), PTs (X.blk s H scope (compEnvC scope cl C X.env) fp) ifs (rdC B T Z0 Φ c))
    (he : ∀ (s : Shared) (H : Hp) (C : Addr) (cl : List (Str × Addr)) (fp : List Addr), PE (X.blk s H scope (compEnvC scope cl C X.env) fp) elt (rdE B T Z0 Φ e)) (hs : ∀ x, foldedSetIterable iter X.env x = pure x) (hsub : ∀ i ∈ tgN t, i ∈ own.map (·.2)) :
    PS X (.Assign [.Name y py] (.ListComp elt [⟨tg, iter, ifs, 0⟩] scope pos) spos) (rdS B T Z Φ (.set (.x i) (.lc m (own.map (·.2)) t it c e))) :=
  (ps_setLc si.calm si.nd hy hyl hsw hi ok hg ht he hs).of fun D σ H ⟨ex, ρ, S, sg, st, sr, h⟩ => by
    rw [exT] at h
    refine lc_read hsub (RSt.bindE st sr h fun x ρ1 H1 v S1 g1 st1 sr1 r1 h1 => ?_)
    rw [evg] at h1
    exact h1 _ ρ1 H1 (Go.refl _ _) st1 (sr1.set r1)
end
end Sv
end

section
set_option Elab.async false
set_option linter.all false
set_option maxRecDepth 100000
set_option maxHeartbeats 2000000
/-! a def's end -/
namespace Sv
open PySem PySem.Spec PyProof.Rows L2
section
variable {B : Bk} {T : List (Addr × Str)} {ρ ρ' : List Addr} {H H' : Hp} {S S' : Store}
mutual
theorem VR.lb : ∀ {x : PV} {v : V}, VR B ρ H x v → lb ρ.length x = true
  | .non, _, _ => rfl
  | .bl _, _, _ => rfl
  | .int _, _, _ => rfl
  | .str _, _, _ => rfl
  | .dic, _, _ => rfl
  | .clo _, _, _ => rfl
  | .tup xs, v, h => by obtain ⟨_, _, _, _, _, r⟩ := vr_tup.mp h; exact VRs.lb r
  | .lst xs, v, h => by obtain ⟨_, _, _, _, _, r⟩ := vr_lst.mp h; exact VRs.lb r
  | .fz xs, v, h => by obtain ⟨_, _, _, _, r⟩ := vr_fz.mp h; exact VRs.lb r
  | .ins C xs, v, h => by obtain ⟨_, _, _, _, _, _, _, _, _, r⟩ := vr_ins.mp h; exact VRs.lb r
  | .exc C xs, v, h => by obtain ⟨_, _, _, _, _, _, r⟩ := vr_exc.mp h; subst r; rfl
  | .loc i, v, h => by
    obtain ⟨a, _, e⟩ := vr_loc.mp h
    exact decide_eq_true (List.getElem?_eq_some_iff.mp e).1
theorem VRs.lb : ∀ {xs : List PV} {vs : List V}, VRs B ρ H xs vs → lbs ρ.length xs = true
  | [], _, _ => rfl
  | x :: xs, vs, h => by
    obtain ⟨v, r, rfl, h1, h2⟩ := h.uncons
    exact Bool.and_eq_true_iff.mpr ⟨VR.lb h1, VRs.lb h2⟩
end
theorem out_pre (h : ρ <+: ρ') {a : Addr} (o : out B ρ' a) : out B ρ a := ⟨fun z => o.1 (h.subset z), o.2⟩
mutual
/-- nothing new is named in it -/
theorem VR.narrow (hp : ρ <+: ρ') : ∀ {x : PV} {v : V}, lb ρ.length x = true → VR B ρ' H x v → VR B ρ H x v
  | .non, _, _, h => vr_non.mpr (vr_non.mp h)
  | .bl _, _, _, h => vr_bl.mpr (vr_bl.mp h)
  | .int _, _, _, h => vr_int.mpr (vr_int.mp h)
  | .str _, _, _, h => vr_str.mpr (vr_str.mp h)
  | .dic, _, _, h => by obtain ⟨a, ps, e, q, o⟩ := vr_dic.mp h; exact vr_dic.mpr ⟨a, ps, e, q, out_pre hp o⟩
  | .clo k, _, _, h => by obtain ⟨f, d, c, pm, ctv, e, hl, hf, nf, hc, nc⟩ := vr_clo.mp h; exact vr_clo.mpr ⟨f, d, c, pm, ctv, e, hl, hf, out_pre hp nf, hc, out_pre hp nc⟩
  | .tup xs, v, l, h => by obtain ⟨a, vs, e, q, o, r⟩ := vr_tup.mp h; exact vr_tup.mpr ⟨a, vs, e, q, out_pre hp o, VRs.narrow hp l r⟩
  | .lst xs, v, l, h => by obtain ⟨a, vs, e, q, o, r⟩ := vr_lst.mp h; exact vr_lst.mpr ⟨a, vs, e, q, out_pre hp o, VRs.narrow hp l r⟩
  | .fz xs, v, l, h => by
    obtain ⟨a, vs, e, q, r⟩ := vr_fz.mp h
    exact vr_fz.mpr ⟨a, vs, e, q.imp (fun q => ⟨q.1, out_pre hp q.2⟩) id, VRs.narrow hp l r⟩
  | .ins C xs, v, l, h => by obtain ⟨a, c, dx, vfs, e, hc, q, o, n, r⟩ := vr_ins.mp h; exact vr_ins.mpr ⟨a, c, dx, vfs, e, hc, q, out_pre hp o, n, VRs.narrow hp l r⟩
  | .exc C xs, v, l, h => by obtain ⟨a, c, e, hc, q, o, r⟩ := vr_exc.mp h; exact vr_exc.mpr ⟨a, c, e, hc, q, out_pre hp o, r⟩
  | .loc i, v, l, h => by
    obtain ⟨a, e, q⟩ := vr_loc.mp h
    refine vr_loc.mpr ⟨a, e, ?_⟩
    have hi : i < ρ.length := of_decide_eq_true l
    obtain ⟨t, rfl⟩ := hp
    rw [List.getElem?_append_left hi] at q
    exact q
theorem VRs.narrow (hp : ρ <+: ρ') : ∀ {xs : List PV} {vs : List V}, lbs ρ.length xs = true → VRs B ρ' H xs vs → VRs B ρ H xs vs
  | [], vs, _, h => by rw [h.unnil]; exact .nil
  | x :: xs, vs, l, h => by
    obtain ⟨v, r, rfl, h1, h2⟩ := h.uncons
    obtain ⟨l1, l2⟩ := Bool.and_eq_true_iff.mp l
    exact .cons (VR.narrow hp l1 h1) (VRs.narrow hp l2 h2)
end
mutual
theorem lf_lb {n : Nat} : ∀ {x : PV}, lf x = true → lb n x = true
  | .non, _ => rfl
  | .bl _, _ => rfl
  | .int _, _ => rfl
  | .str _, _ => rfl
  | .dic, _ => rfl
  | .clo _, _ => rfl
  | .tup xs, h => lfs_lbs (xs := xs) h
  | .lst xs, h => lfs_lbs (xs := xs) h
  | .fz xs, h => lfs_lbs (xs := xs) h
  | .ins C xs, h => lfs_lbs (xs := xs) h
  | .exc C xs, h => lfs_lbs (xs := xs) h
  | .loc i, h => by cases h
theorem lfs_lbs {n : Nat} : ∀ {xs : List PV}, lfs xs = true → lbs n xs = true
  | [], _ => rfl
  | x :: xs, h => by
    obtain ⟨h1, h2⟩ := Bool.and_eq_true_iff.mp h
    exact Bool.and_eq_true_iff.mpr ⟨lf_lb h1, lfs_lbs h2⟩
end
theorem mapM_all {f : PV → Option PV} {P : PV → V → Prop} {P' : PV → V → Prop} (hf : ∀ x w v, f x = some w → P x v → P' w v) : ∀ {xs ws : List PV} {vs : List V}, xs.mapM f = some ws → (∀ (i : Nat) x v, xs[i]? = some x → vs[i]? = some v → P x v) → xs.length = vs.length →
    ws.length = vs.length ∧ ∀ (i : Nat) w v, ws[i]? = some w → vs[i]? = some v → P' w v
  | [], ws, vs, h, hp, hl => by
    rw [List.mapM_nil] at h
    cases h
    exact ⟨hl, fun i w v e => by simp at e⟩
  | x :: xs, ws, vs, h, hp, hl => by
    rw [List.mapM_cons] at h
    cases e : f x with
    | none => rw [e] at h; cases h
    | some w =>
      rw [e] at h
      cases e2 : xs.mapM f with
      | none => simp [e2] at h
      | some ws' =>
        simp [e2] at h
        subst h
        cases vs with
        | nil => simp at hl
        | cons v vs =>
          obtain ⟨h1, h2⟩ := mapM_all hf e2 (fun i y u e3 e4 => hp (i + 1) y u (by simpa using e3) (by simpa using e4)) (by simpa using hl)
          refine ⟨by simpa using h1, fun i w' v' e3 e4 => ?_⟩
          cases i with
          | zero => simp at e3 e4; subst e3 e4; exact hf x w v e (hp 0 x v rfl rfl)
          | succ i => exact h2 i w' v' (by simpa using e3) (by simpa using e4)
/-- a value behind a def -/
theorem frz_ok (hp : ρ <+: ρ') (st : StR B T ρ' H S) : ∀ {k : Nat} {x w : PV} {v : V}, frz S ρ.length k x = some w → VR B ρ' H x v → VR B ρ H w v
  | 0, x, w, v, h, r => by
    unfold frz at h
    split at h
    · rename_i hl
      cases h
      exact r.narrow hp (lf_lb hl)
    · cases h
  | k + 1, x, w, v, h, r => by
    have all : ∀ {xs ws : List PV} {vs : List V}, xs.mapM (frz S ρ.length k) = some ws → VRs B ρ' H xs vs → VRs B ρ H ws vs := fun {xs ws vs} hm rs => by
      obtain ⟨h1, h2⟩ := mapM_all (P := fun x v => VR B ρ' H x v) (P' := fun w v => VR B ρ H w v) (fun x w v e q => frz_ok hp st e q) hm (fun i x v e1 e2 => by
        obtain ⟨u, hu, ru⟩ := rs.get e1
        rw [e2] at hu; cases hu; exact ru) rs.length
      exact VRs.of h1 h2
    have np : ∀ {i : Nat} {a : Addr}, ¬ i < ρ.length → ρ'[i]? = some a → out B ρ a := fun {i a} hi e => by
      refine ⟨fun hm => ?_, st.ex a (List.mem_of_getElem? e)⟩
      obtain ⟨t, rfl⟩ := hp
      obtain ⟨j, hj⟩ := List.mem_iff_getElem?.mp hm
      have hjl := (List.getElem?_eq_some_iff.mp hj).1
      have e2 : (ρ ++ t)[j]? = some a := by rw [List.getElem?_append_left hjl]; exact hj
      obtain ⟨q1, q2⟩ := List.getElem?_eq_some_iff.mp e
      obtain ⟨q3, q4⟩ := List.getElem?_eq_some_iff.mp e2
      have := (List.getElem_inj st.nd).mp (q2.trans q4.symm)
      omega
    unfold frz at h
    split at h
    · rename_i hl
      cases h
      exact r.narrow hp (lf_lb hl)
    · rename_i hnl
      split at h
      · rename_i i
        split at h
        · rename_i hi
          cases h
          exact r.narrow hp (decide_eq_true hi)
        · rename_i hi
          obtain ⟨a, rfl, ha⟩ := vr_loc.mp r
          split at h
          · rename_i xs e
            obtain ⟨vs, q, rs⟩ := st.cl i a _ ha e
            cases em : xs.mapM (frz S ρ.length k) with
            | none => rw [em] at h; cases h
            | some ws => rw [em] at h; cases h; exact vr_lst.mpr ⟨a, vs, rfl, q, np hi ha, all em rs⟩
          · rename_i C fs e
            obtain ⟨c, dx, vfs, q, qc, qn, ql, rs⟩ := st.cl i a _ ha e
            cases em : fs.mapM (frz S ρ.length k) with
            | none => rw [em] at h; cases h
            | some ws =>
              rw [em] at h; cases h
              have r2 := all em rs
              refine vr_ins.mpr ⟨a, c, dx, vfs, rfl, qc, q, np hi ha, ?_, r2⟩
              rw [qn, r2.length, rs.length]
          · rename_i kvs e
            obtain ⟨ps, q, _⟩ := st.cl i a _ ha e
            cases h
            exact vr_dic.mpr ⟨a, ps, rfl, q, np hi ha⟩
          · cases h
      · rename_i xs
        obtain ⟨a, vs, e, q, o, rs⟩ := vr_tup.mp r
        cases em : xs.mapM (frz S ρ.length k) with
        | none => rw [em] at h; cases h
        | some ws => rw [em] at h; cases h; exact vr_tup.mpr ⟨a, vs, e, q, out_pre hp o, all em rs⟩
      · rename_i xs
        obtain ⟨a, vs, e, q, o, rs⟩ := vr_lst.mp r
        cases em : xs.mapM (frz S ρ.length k) with
        | none => rw [em] at h; cases h
        | some ws => rw [em] at h; cases h; exact vr_lst.mpr ⟨a, vs, e, q, out_pre hp o, all em rs⟩
      · rename_i C xs
        obtain ⟨a, c, dx, vfs, e, hc, q, o, n, rs⟩ := vr_ins.mp r
        cases em : xs.mapM (frz S ρ.length k) with
        | none => rw [em] at h; cases h
        | some ws =>
          rw [em] at h; cases h
          have r2 := all em rs
          exact vr_ins.mpr ⟨a, c, dx, vfs, e, hc, q, out_pre hp o, by rw [n, r2.length, rs.length], r2⟩
      · rename_i C xs
        obtain ⟨a, c, e, hc, q, o, rs⟩ := vr_exc.mp r
        subst rs
        rw [List.mapM_nil] at h
        cases h
        exact vr_exc.mpr ⟨a, c, e, hc, q, out_pre hp o, rfl⟩
      · cases h
theorem Go.shrink (g : Go ρ ρ' H H') : Go ρ ρ H H' := ⟨List.prefix_refl _, fun _ h => .inl h, g.keep, g.live⟩
/-- the store behind a def -/
theorem old_ok (st : StR B T ρ H S) (g : Go ρ ρ' H H') (st' : StR B T ρ' H' S') (ho : old S.length S S') : StR B T ρ H' (S'.take S.length) := by
  obtain ⟨ho1, ho2⟩ := ho
  refine ⟨by rw [List.length_take, st.len]; omega, st.nd, fun i a c e1 e2 => ?_, st'.tabs, st.ex, st'.exs⟩
  have hi : i < S.length := by rw [← st.len]; exact (List.getElem?_eq_some_iff.mp e1).1
  rw [List.getElem?_take_of_lt hi] at e2
  have q := st'.cl i a c (g.at e1) e2
  have hb : clb ρ.length c = true := by
    rcases ho2 i c hi e2 with z | z
    · have q0 := st.cl i a c e1 z
      cases c with
      | lst xs => obtain ⟨vs, _, r⟩ := q0; exact r.lb
      | dct kvs => obtain ⟨ps, _, _, r⟩ := q0; exact r.lb
      | ins C fs => obtain ⟨_, _, _, _, _, _, _, r⟩ := q0; exact r.lb
    · rw [st.len]; exact z
  cases c with
  | lst xs => obtain ⟨vs, e, r⟩ := q; exact ⟨vs, e, r.narrow g.ext hb⟩
  | dct kvs => obtain ⟨ps, e, k, r⟩ := q; exact ⟨ps, e, k, r.narrow g.ext hb⟩
  | ins C fs => obtain ⟨c, dx, vfs, e, h1, h2, h3, r⟩ := q; exact ⟨c, dx, vfs, e, h1, h2, h3, r.narrow g.ext hb⟩
end
end Sv
end

section
set_option Elab.async false
set_option linter.all false
set_option maxRecDepth 100000
set_option maxHeartbeats 2000000
/-! defs, classes and their calls -/
namespace Sv
open PySem PySem.Spec PyProof.Rows L2
/-- what a def promises: its plain meaning -/
def spF (B : Bk) (T : List (Addr × Str)) (Φ : Phi) (f n : Nat) : Sp := fun vs H Q Z => ∃ ex ρ S xs, vs.length = n ∧ StR (B.wx ex) T ρ H S ∧ VRs (B.wx ex) ρ H xs vs ∧ RG (B.wx ex) T Z (VR (B.wx ex)) ρ H (Φ f xs S) Q
/-- what an __init__ promises -/
def spI (B : Bk) (T : List (Addr × Str)) (Φ : Phi) (nl : Nat) (b : Ts) (n : Nat) : Sp := fun vs H Q Z => ∃ ex ρ S xs, vs.length = n ∧ StR (B.wx ex) T ρ H S ∧ VRs (B.wx ex) ρ H xs vs ∧ match exs Φ b (startS nl xs) S with
  | .ok (.nx, _) S' => ∀ ρ' H', Go ρ ρ' H H' → StR (B.wx ex) T ρ' H' S' → Q .non H'
  | .ex c S' => ExR (B.wx ex) T Z ρ H c S'
  | _ => False
theorem startS_get {nl : Nat} {vs : List PV} {i : Nat} {v : PV} (h : getS (startS nl vs) i = some v) : vs[i]? = some v := by
  unfold startS at h
  induction vs generalizing i nl with
  | nil =>
    exfalso
    simp only [List.map_nil, List.nil_append] at h
    have : ∀ n i, getS (List.replicate n none) i ≠ some v := fun n => by
      induction n with
      | zero => intro i; cases i <;> simp [getS]
      | succ n ih => intro i; cases i with
        | zero => simp [List.replicate_succ, getS]
        | succ i => rw [List.replicate_succ]; exact ih i
    exact this _ _ h
  | cons a r ih =>
    cases i with
    | zero => simpa [getS] using h
    | succ i =>
      simp only [List.map_cons, List.cons_append, List.length_cons] at h
      have := ih (nl := nl - 1) (i := i) (by
        have e : nl - 1 - r.length = nl - (r.length + 1) := by omega
        rw [e]; exact h)
      simpa using this
theorem startS_length {nl : Nat} {vs : List PV} (h : vs.length ≤ nl) : (startS nl vs).length = nl := by
  unfold startS
  rw [List.length_append, List.length_map, List.length_replicate]
  omega
section
variable {B : Bk} {T : List (Addr × Str)} {Z : XK} {Φ : Phi} {ex ρ ρ' : List Addr} {H H' : Hp} {S S' : Store} {sg : Sg} {σ : L2.St}
theorem start_sg {N : List Str} {xs : List PV} {vs : List V} {nl : Nat} (r : VRs B ρ H xs vs) (hN : N.length = nl) (hl : vs.length ≤ nl) : SgR B ρ H (startS nl xs) (L2.start N vs) := by
  have e := r.length
  refine ⟨?_, fun i v h => ?_⟩
  · rw [startS_length (by omega)]
    unfold L2.start
    rw [List.length_append, List.length_map, List.length_replicate]
    omega
  · have h2 := startS_get h
    obtain ⟨x, hx, rx⟩ := r.get h2
    refine ⟨x, ?_, rx⟩
    have hi := (List.getElem?_eq_some_iff.mp hx).1
    unfold L2.start
    rw [List.getElem?_append_left (by simpa using hi), List.getElem?_map, hx]
    rfl
theorem leave_inv {n : Nat} {v : PV} {Q : VK} {β : Type} (h : RG B T Z (VR B) ρ H (leave n S S' v) Q) : old n S S' ∧ ∃ w, frz S' n 8 v = some w ∧ RG B T Z (VR B) ρ H (.ok w (S'.take n)) Q := by
  unfold leave at h
  split at h
  · rename_i ho
    split at h
    · rename_i w hw
      exact ⟨ho, w, hw, h⟩
    · exact h.elim
  · exact h.elim
theorem leave_ok {v : PV} {x : V} {Q : VK} (st : StR B T ρ H S) (g : Go ρ ρ' H H') (st' : StR B T ρ' H' S') (r : VR B ρ' H' v x) (h : RG B T Z (VR B) ρ H (leave S.length S S' v) Q) : Q x H' := by
  obtain ⟨ho, w, hw, h⟩ := leave_inv (β := Unit) h
  rw [← st.len] at hw
  exact h x ρ H' g.shrink (old_ok st g st' ho) (frz_ok g.ext st' hw r)
/-- a def's body, by its plain meaning -/
theorem fin_read {N : List Str} {nl : Nat} {b : Ts} {xs : List PV} {vs : List V} {Q : VK} (st : StR (B.wx ex) T ρ H S) (r : VRs (B.wx ex) ρ H xs vs) (hN : N.length = nl) (hl : vs.length ≤ nl)
    (h : RG (B.wx ex) T Z (VR (B.wx ex)) ρ H (fin S (exs Φ b (startS nl xs) S)) Q) : rdSs B T Z Φ b { nx := fun _ H' => Q .non H', rt := Q } (L2.start N vs) H := by
  refine ⟨ex, ρ, S, startS nl xs, st, start_sg r hN hl, ?_⟩
  cases e : exs Φ b (startS nl xs) S with
  | ok q S' =>
    rw [e] at h
    obtain ⟨f, sg'⟩ := q
    cases f with
    | nx => exact fun σ' ρ' H' g st' _ => leave_ok st g st' (vr_non.mpr rfl) h
    | rt v => exact fun x ρ' H' g st' rx => leave_ok st g st' rx h
    | bk => exact h.elim
    | ct => exact h.elim
  | ex c S' =>
    rw [e] at h
    unfold fin at h
    dsimp only at h
    split at h
    · rename_i ho
      exact fun ρ' H' C k g st' e1 e2 => h ρ H' C k g.shrink (old_ok st g st' ho.1) e1 e2
    · exact h.elim
  | no => rw [e] at h; exact h.elim
/-- the same, where what was made goes on being changed -/
theorem fink_read {N : List Str} {nl : Nat} {b : Ts} {xs : List PV} {vs : List V} {Q : VK} (st : StR (B.wx ex) T ρ H S) (r : VRs (B.wx ex) ρ H xs vs) (hN : N.length = nl) (hl : vs.length ≤ nl)
    (h : RG (B.wx ex) T Z (VR (B.wx ex)) ρ H (finK (exs Φ b (startS nl xs) S)) Q) : rdSs B T Z Φ b { nx := fun _ H' => Q .non H', rt := Q } (L2.start N vs) H := by
  refine ⟨ex, ρ, S, startS nl xs, st, start_sg r hN hl, ?_⟩
  cases e : exs Φ b (startS nl xs) S with
  | ok q S' =>
    rw [e] at h
    obtain ⟨f, sg'⟩ := q
    cases f with
    | nx => exact fun σ' ρ' H' g st' _ => h .non ρ' H' g st' (vr_non.mpr rfl)
    | rt v => exact fun x ρ' H' g st' rx => h x ρ' H' g st' rx
    | bk => exact h.elim
    | ct => exact h.elim
  | ex c S' => rw [e] at h; exact h
  | no => rw [e] at h; exact h.elim
theorem init_read {N : List Str} {nl : Nat} {b : Ts} {vs : List V} {Q : VK} {n : Nat} (hN : N.length = nl) (hn : n ≤ nl) (h : spI B T Φ nl b n vs H Q Z) : rdSs B T Z Φ b { nx := fun _ H' => Q .non H', rt := Q } (L2.start N vs) H := by
  obtain ⟨ex, ρ, S, xs, hl, st, r, h⟩ := h
  refine ⟨ex, ρ, S, startS nl xs, st, start_sg r hN (by omega), ?_⟩
  cases e : exs Φ b (startS nl xs) S with
  | ok q S' =>
    rw [e] at h
    obtain ⟨f, sg'⟩ := q
    cases f with
    | nx => exact fun σ' ρ' H' g st' _ => h ρ' H' g st'
    | rt v => exact h.elim
    | bk => exact h.elim
    | ct => exact h.elim
  | ex c S' => rw [e] at h; exact h
  | no => rw [e] at h; exact h.elim
end
/-! ### calls -/
/-- the order in which keywords put the values -/
def permG {α : Type} (ks : List Nat) (us ws : List α) : List α := ks.filterMap fun k => (us ++ ws)[k]?
theorem permG_rel {ks : List Nat} {vs zs : List V} {us ws : List Value} (h1 : Vals vs us) (h2 : Vals zs ws) : Vals (permG ks vs zs) (permG ks us ws) := by
  have h := h1.append h2
  unfold permG
  induction ks with
  | nil => exact .nil
  | cons k ks ih =>
    have hl := h.length
    rw [List.filterMap_cons, List.filterMap_cons]
    cases e : (vs ++ zs)[k]? with
    | none =>
      have : (us ++ ws)[k]? = none := List.getElem?_eq_none (by rw [← hl]; exact List.getElem?_eq_none_iff.mp e)
      rw [this]; exact ih
    | some x =>
      obtain ⟨u, hu, ru⟩ := h.get e
      rw [hu]
      exact .cons ru ih
theorem permG_vrs {B : Bk} {ρ : List Addr} {H : Hp} {ks : List Nat} {xs : List PV} {vs : List V} (h : VRs B ρ H xs vs) : VRs B ρ H (ks.filterMap fun k => xs[k]?) (ks.filterMap fun k => vs[k]?) := by
  induction ks with
  | nil => exact .nil
  | cons k ks ih =>
    have hl := h.length
    rw [List.filterMap_cons, List.filterMap_cons]
    cases e : xs[k]? with
    | none =>
      have : vs[k]? = none := List.getElem?_eq_none (by rw [← hl]; exact List.getElem?_eq_none_iff.mp e)
      rw [this]; exact ih
    | some x =>
      obtain ⟨u, hu, ru⟩ := h.get e
      rw [hu]
      exact .cons ru ih
/-- a keyword call's form: so many values, the keywords' names, the order -/
structure KwF where
  n : Nat
  ks : List Str
  perm : List Nat
/-- the def f under the name x -/
structure Callee (P : Program) (w : World) (K : PySem.W.Frag) (mg : Str → Option Value) (base : Heap) (B : Bk) (T : List (Addr × Str)) (Φ : Phi) (k : Nat) (x : Str) (f : Nat) (kws : List KwF) : Prop where
  ex : ∃ a fd ps, mg x = some (.ref a) ∧ PySem.W.keepIn K (.ref a) = true ∧ Binds K fd ps [] ∧ FnOk P w K mg base (L2.CX P w) k a fd ps (spF B T Φ f ps.length) ∧ (∀ xs S, xs.length ≠ ps.length → Φ f xs S = .no) ∧ ∀ q ∈ kws, q.perm.length = ps.length ∧ (∀ j ∈ q.perm, j < q.n + q.ks.length) ∧ KBn K fd ps q.n q.ks (permG q.perm) (permG q.perm)
  nd : (x == ("__debug__" : Str)) = false
/-- the class f under the name x -/
structure Maker (P : Program) (w : World) (K : PySem.W.Frag) (mg : Str → Option Value) (base : Heap) (B : Bk) (T : List (Addr × Str)) (Φ : Phi) (k : Nat) (x : Str) (f : Nat) (kws : List KwF) : Prop where
  ex : ∃ C a fd ps Φ' nl b, mg x = some (.ref C) ∧ B.cls f = some C ∧ Mk K C a ∧ Binds K fd ps [] ∧ FnOk P w K mg base (L2.CX P w) k a fd ps (spI B T Φ' nl b ps.length) ∧ ps.length ≤ nl ∧ (∀ xs S, Φ f xs S = runF Φ' (.cls ps.length nl b) f xs S) ∧
    ∀ q ∈ kws, q.perm.length + 1 = ps.length ∧ (∀ j ∈ q.perm, j < q.n + q.ks.length) ∧ KBn K fd ps (q.n + 1) q.ks (permG (0 :: q.perm.map (· + 1))) (permG (0 :: q.perm.map (· + 1)))
  nd : (x == ("__debug__" : Str)) = false
section
variable {X : Cx} {B : Bk} {T : List (Addr × Str)} {Z : XK} {Φ : Phi} {k f : Nat} {x : Str} {kws : List KwF}
variable {ex ρ : List Addr} {H : Hp} {S : Store} {sg : Sg} {σ : L2.St} {pa : Expr} {a : E} {pos p : Pos} {es : List Expr} {el : Es}
theorem passZ (si : Sit X B Z) : Passes (L2.CX X.prog X.w) X Z := fun pins σ H s e s' I c => passAt si.takes σ pins H s e s' I c
/-- what follows the arguments: the def -/
theorem call_read {n : Nat} {vs : List V} {xs : List PV} {Q : VK} (hlen : ∀ xs S, xs.length ≠ n → Φ f xs S = .no) (st : StR (B.wx ex) T ρ H S) (r : VRs (B.wx ex) ρ H xs vs) (h : RG (B.wx ex) T Z (VR (B.wx ex)) ρ H (Φ f xs S) Q) : spF B T Φ f n vs H Q Z := by
  refine ⟨ex, ρ, S, xs, ?_, st, r, h⟩
  by_cases e : xs.length = n
  · rw [← r.length]; exact e
  · rw [hlen xs S e] at h
    exact h.elim
theorem nd_call (si : Sit X B Z) (F : Callee X.prog X.w X.K X.mg X.base B T Φ k x f kws) (hr : Room k X.A) (hg : Gl X x) (ha : PA X (pa :: es) (rdEs B T Z Φ el)) (he : starEach (pa :: es) X.env = (false, eval pa X.env) :: starEach es X.env) (hpl : (backTo pos (starEach es X.env)).any (·.1) = false) :
    PE X (.Call (.Name x p) (pa :: es) [] pos) (rdE B T Z Φ (.call f el)) := by
  obtain ⟨⟨a, fd, ps, hm, hk, hb, F, hlen, _⟩, hnd⟩ := F
  refine (pe_call F hr hg hm hk hb .nil (passZ si) ha hnd he hpl).of fun σ H Q ⟨ex, ρ, S, sg, st, sr, h⟩ => ?_
  rw [ev] at h
  exact goEs st sr h fun vs ρ1 H1 xs S1 g1 st1 sr1 r1 h1 => by rw [List.append_nil]; exact call_read hlen st1 r1 h1
def noStar : Es → Bool
  | .nil => true
  | .cons _ r => noStar r
  | .star _ _ => false
theorem evs_length : ∀ {el : Es} {sg : Sg} {S : Store} {xs : List PV} {S' : Store}, noStar el = true → evs Φ el sg S = .ok xs S' → xs.length = esLen el
  | .nil, _, _, _, _, _, h => by rw [evs] at h; cases h; rfl
  | .cons a r, sg, S, xs, S', hn, h => by
    rw [evs] at h
    obtain ⟨v, S1, e1, h⟩ := bind_inv h
    obtain ⟨vs, S2, e2, h⟩ := bind_inv h
    cases h
    have hn2 : noStar r = true := hn
    simp [esLen, evs_length hn2 e2]
  | .star _ _, _, _, _, _, hn, _ => by cases hn
/-- the keywords' values -/
theorem nk_nil : PK X [] (rdEs B T Z Φ .nil) := ⟨fun pos pins s σ H Q I ⟨ex, ρ, S, sg, st, sr, h⟩ => by rw [evs] at h; exact pk_nil.run pos pins s σ H Q I (h.ok st .nil)⟩
theorem nk_cons {nm : Option Str} {kpos : Pos} {kw : List Keyword} (ha : PE X pa (rdE B T Z Φ a)) (hr : PK X kw (rdEs B T Z Φ el)) : PK X (⟨nm, pa, kpos⟩ :: kw) (rdEs B T Z Φ (.cons a el)) := ⟨fun pos pins s σ H Q I ⟨ex, ρ, S, sg, st, sr, h⟩ => by
  refine (pk_cons ha hr).run pos pins s σ H Q I ?_
  rw [evs] at h
  exact goE st sr h fun x ρ1 H1 v S1 g1 st1 sr1 r1 h1 => goEs st1 sr1 h1 fun xs ρ2 H2 vs S2 g2 st2 sr2 r2 h2 => h2.ok st2 (.cons (r1.mono g2) r2)⟩
variable {kw : List Keyword}
theorem pe_callN0 {CX : CXT} {f : Addr} {fd : FuncData} {ps ks : List Str} {sp : Sp} {E : XK} {tk : TA} {g : List Value → List Value → List Value} {gV : List V → List V → List V} (F : FnOk X.prog X.w X.K X.mg X.base CX k f fd ps sp) (hr : Room k X.A) (hg : Gl X x) (hm : X.mg x = some (.ref f)) (hk : PySem.W.keepIn X.K (.ref f) = true) (hb : KBn X.K fd ps 0 ks g gV) (hx : Passes CX X E)
    (hkw : PK X kw tk) (hall : (backToKw pos (keywordEach kw X.env)).all (·.1.isSome) = true) (hks : (backToKw pos (keywordEach kw X.env)).filterMap (·.1) = ks) (hdb : (x == ("__debug__" : Str)) = false)
    (hpl : ((backTo pos (starEach [] X.env)).any (·.1) || (backToKw pos (keywordEach kw X.env)).any (·.1.isNone)) = false) :
    PE X (.Call (.Name x p) [] kw pos) (tCallN 0 ks.length sp gV E tNil tk) := by
  refine ⟨fun pins s σ H Q I h => ?_⟩
  refine wpAny_Call_Name_kw (ld_glob I hg hm ?_ hdb)
  refine PySem.W.callWith_KW0 (h₀ := X.base) I.ok.mod.kin hk hall ?_ hpl
  refine thn (hkw.run pos pins s σ H _ I h) fun ws s2 ⟨zs, H2, I2, rz, l1, l2, q2⟩ => ⟨I2.kIn, ?_⟩
  rw [hks]
  exact run_fnN (us := []) (vs := []) F hr hb hx I2 .nil rz rfl l2 q2
theorem nd_callk (si : Sit X B Z) (F : Callee X.prog X.w X.K X.mg X.base B T Φ k x f kws) (hr : Room k X.A) (hg : Gl X x) {q : KwF} (hq : q ∈ kws) (hn0 : q.n = 0) (hns : noStar el = true) (hkl : q.ks.length = esLen el) (hkw : PK X kw (rdEs B T Z Φ el))
    (hall : (backToKw pos (keywordEach kw X.env)).all (·.1.isSome) = true) (hks : (backToKw pos (keywordEach kw X.env)).filterMap (·.1) = q.ks)
    (hpl : ((backTo pos (starEach [] X.env)).any (·.1) || (backToKw pos (keywordEach kw X.env)).any (·.1.isNone)) = false) :
    PE X (.Call (.Name x p) [] kw pos) (rdE B T Z Φ (.callk f q.perm el)) := by
  obtain ⟨⟨a, fd, ps, hm, hk, hb, F, hlen, hkf⟩, hnd⟩ := F
  obtain ⟨hp1, hp2, hkb⟩ := hkf q hq
  rw [hn0] at hkb
  refine (pe_callN0 F hr hg hm hk hkb (passZ si) hkw hall hks hnd hpl).of fun σ H Q ⟨ex, ρ, S, sg, st, sr, h⟩ => ?_
  rw [ev] at h
  have hl : ∀ xs S', evs Φ el sg S = .ok xs S' → xs.length = esLen el := fun xs S' e => evs_length hns e
  show rdEs B T Z Φ el σ H _
  refine ⟨ex, ρ, S, sg, st, sr, ?_⟩
  cases e : evs Φ el sg S with
  | ok xs S1 =>
    rw [e] at h
    intro zs ρ1 H1 g1 st1 r1
    have h1 := h.mono g1
    refine ⟨rfl, by rw [← r1.length, hl _ _ e, hkl], ?_⟩
    have := permG_vrs (ks := q.perm) r1
    show spF B T Φ f ps.length (permG q.perm [] zs) H1 Q Z
    unfold permG
    rw [List.nil_append]
    exact call_read hlen st1 this h1
  | ex c S1 => rw [e] at h; exact h
  | no => rw [e] at h; exact h
/-- what follows the arguments: a new instance -/
theorem make_read {Φ' : Phi} {nl np : Nat} {b : Ts} {C : Addr} {vs : List V} {xs : List PV} {Q : VK} (hC : B.cls f = some C) (st : StR (B.wx ex) T ρ H S) (r : VRs (B.wx ex) ρ H xs vs) (h : RG (B.wx ex) T Z (VR (B.wx ex)) ρ H (runF Φ' (.cls np nl b) f xs S) Q) {y dx : Addr} (hy : H y = none) (hdx : H dx = none) (hne : dx ≠ y) :
    spI B T Φ' nl b np (.ref y :: vs) (upd (upd H dx (.own y)) y (.ins C dx [])) (fun v H2 => v = .non ∧ Q (.ref y) H2) Z := by
  obtain ⟨st1, g1, _⟩ := st.fresh (o := .own y) hdx
  have hy1 : upd H dx (.own y) y = none := by rw [upd_ne hne.symm]; exact hy
  obtain ⟨st2, g2⟩ := st1.push (o := .ins C dx []) (c := .ins f []) hy1 fun ρ' g => ⟨C, dx, [], upd_same, hC, by simp, by simp, .nil⟩
  unfold runF at h
  dsimp only at h
  have g12 := g1.trans g2
  have ry : VR (B.wx ex) (ρ ++ [y]) (upd (upd H dx (.own y)) y (.ins C dx [])) (.loc S.length) (.ref y) := vr_loc.mpr ⟨y, rfl, by rw [← st.len]; simp⟩
  split at h
  · rename_i hlen
    refine ⟨ex, ρ ++ [y], S ++ [.ins f []], .loc S.length :: xs, by simp [← r.length, hlen], st2, .cons ry (r.mono g12), ?_⟩
    cases e : exs Φ' b (startS nl (.loc S.length :: xs)) (S ++ [.ins f []]) with
    | ok q S' =>
      rw [e] at h
      obtain ⟨fl, sg'⟩ := q
      cases fl with
      | nx => exact fun ρ' H' g st' => ⟨rfl, leave_ok st (g12.trans g) st' (ry.mono g) h⟩
      | rt v => exact h.elim
      | bk => exact h.elim
      | ct => exact h.elim
    | ex c S' =>
      rw [e] at h
      dsimp only at h
      split at h
      · rename_i ho
        exact fun ρ' H' C k g st' e1 e2 => h ρ H' C k (g12.trans g).shrink (old_ok st (g12.trans g) st' ho.1) e1 e2
      · exact h.elim
    | no => rw [e] at h; exact h.elim
  · exact h.elim
theorem nd_make (si : Sit X B Z) (F : Maker X.prog X.w X.K X.mg X.base B T Φ k x f kws) (hr : Room (k + 1) X.A) (hg : Gl X x) (ha : PA X (pa :: es) (rdEs B T Z Φ el)) (he : starEach (pa :: es) X.env = (false, eval pa X.env) :: starEach es X.env) (hpl : (backTo pos (starEach es X.env)).any (·.1) = false) :
    PE X (.Call (.Name x p) (pa :: es) [] pos) (rdE B T Z Φ (.call f el)) := by
  obtain ⟨⟨C, a, fd, ps, Φ', nl, b, hm, hC, M, hb, F, hnl, hrun, _⟩, hnd⟩ := F
  refine (pe_make M F hr hg hm hb .nil (passZ si) ha hnd he hpl).of fun σ H Q ⟨ex, ρ, S, sg, st, sr, h⟩ => ?_
  rw [ev] at h
  refine goEs st sr h fun vs ρ1 H1 xs S1 g1 st1 sr1 r1 h1 => fun y dx hy hdx hne => ?_
  rw [List.append_nil]
  rw [hrun] at h1
  exact make_read hC st1 r1 h1 hy hdx hne
theorem nd_makek (si : Sit X B Z) (F : Maker X.prog X.w X.K X.mg X.base B T Φ k x f kws) (hr : Room (k + 1) X.A) (hg : Gl X x) {q : KwF} (hq : q ∈ kws) (hn0 : q.n = 0) (hns : noStar el = true) (hkl : q.ks.length = esLen el) (hkw : PK X kw (rdEs B T Z Φ el))
    (hall : (backToKw pos (keywordEach kw X.env)).all (·.1.isSome) = true) (hks : (backToKw pos (keywordEach kw X.env)).filterMap (·.1) = q.ks)
    (hpl : ((backTo pos (starEach [] X.env)).any (·.1) || (backToKw pos (keywordEach kw X.env)).any (·.1.isNone)) = false) :
    PE X (.Call (.Name x p) [] kw pos) (rdE B T Z Φ (.callk f q.perm el)) := by
  obtain ⟨⟨C, a, fd, ps, Φ', nl, b, hm, hC, M, hb, F, hnl, hrun, hkf⟩, hnd⟩ := F
  obtain ⟨hp1, hp2, hkb⟩ := hkf q hq
  rw [hn0] at hkb
  refine (pe_makeK0 M F hr hg hm hkb (passZ si) hkw hall hks hnd hpl).of fun σ H Q ⟨ex, ρ, S, sg, st, sr, h⟩ => ?_
  rw [ev] at h
  show rdEs B T Z Φ el σ H _
  refine ⟨ex, ρ, S, sg, st, sr, ?_⟩
  cases e : evs Φ el sg S with
  | ok xs S1 =>
    rw [e] at h
    intro zs ρ1 H1 g1 st1 r1
    have h1 := h.mono g1
    rw [Rs.bind_ok, hrun] at h1
    refine ⟨rfl, by rw [← r1.length, evs_length hns e, hkl], fun y dx hy hdx hne => ?_⟩
    have := permG_vrs (ks := q.perm) r1
    have hq := make_read hC st1 this h1 hy hdx hne
    have e2 : permG (0 :: q.perm.map (· + 1)) [V.ref y] zs = V.ref y :: q.perm.filterMap fun k => zs[k]? := by
      unfold permG
      rw [List.filterMap_cons]
      simp [List.filterMap_map, Function.comp_def]
    rw [e2]
    exact hq
  | ex c S1 => rw [e] at h; exact h
  | no => rw [e] at h; exact h
end
end Sv
end

section
set_option Elab.async false
set_option linter.all false
set_option maxRecDepth 100000
set_option maxHeartbeats 2000000
/-! == and != of instances -/
namespace PySem.W
open PySem PySem.Spec PySem.Calls PyProof.Rows
section
variable {M : Model} {prog : Program} {w : World} {A : Around} {E : Value → Shared → Prop} {s : Shared} {K : Frag} {x C f : Addr} {ox : Obj} {od : Option Obj} {b tb : Value}
theorem sv_ifBound_ne {args : List Value} {Q : Option Value → Shared → Prop} (X : K.In s.heap) (I : InstAt s.heap x ox C od) (hs : findIn K (.ref C) "__ne__" = some (some (.builtin "object.__ne__")))
    (h : wpAny M A (call (.builtin "object.__ne__") (.ref x :: args)) (fun v => Q (some v)) E s) : wpAny M A (callSpecialIfBound? (.ref x) "__ne__" args) Q E s := by
  simp only [callSpecialIfBound?, bindSpecialIfBound?]
  refine wpAny_holding (wpAny_bind (wpAny_bind (wpAny_bind (I.type.here ((looks_findIn X hs).here ?_)))))
  refine wpAny_bind (wpAny_askSetting (wpAny_ite ?_))
  have fin : wpAny M A (call (.builtin "object.__ne__") ([.ref x] ++ args) >>= fun v => pure (some v)) Q E s := wpAny_bind (wpAny_mono h (fun v s' h' => wpAny_pure h') fun _ _ h' => h')
  split
  · exact wpAny_bind (wpAny_of_eq (F.cmp_object.ne.bind _) (wpAny_pure (by exact fin)))
  · exact wpAny_tryCatch (wpAny_bind (wpAny_of_eq (F.cmp_object.ne.bind _) (wpAny_pure (by exact fin))))
theorem sv_ne_entry {Q : Fin → Shared → Prop} (hu : A.units < cLine) (X : K.In s.heap) (I : InstAt s.heap x ox C od) (hs : findIn K (.ref C) "__eq__" = some (some (.ref f))) (hf : isFn K (.ref f) = true)
    (h : wpAny M A (call (.ref f) [.ref x, b]) (fun v s' => ∃ k, v = .bool k ∧ Q (.done (.ret (.bool (!k)))) s') E s) : wpAny M A (Builtin.«object.__ne__» ⟨[.ref x, b], []⟩) Q E s := by
  unfold Builtin.«object.__ne__»
  repeat (first
    | with_reducible refine wpAny_cRoomFor hu ?_
    | (refine wpAny_bind (m := callSpecialIfBound? (.ref x) (Str.ofString "__eq__") [b])
        (ifBound_K X I hs hf (wpAny_mono h (fun r s' hr => by
          obtain ⟨k, rfl, hq⟩ := hr
          repeat (first | exact hq | exact wpAny_pure hq | exact wpAny_truthy_bool hq | (refine wpAny_bind (m := truthy (.bool _)) (wpAny_truthy_bool ?_)) | wp_step)) fun _ _ e => e)))
    | wp_step)
theorem sv_cmp_ne {Q : Value → Shared → Prop} (hu : A.units + 1 < cLine) (X : K.In s.heap) (I : InstAt s.heap x ox C od) (hb : Looks (model prog w) s.heap (typeOf b) tb) (hn : notFirst K C tb = true) (hm : mroIn K C (.type "object") = some true)
    (hne : findIn K (.ref C) "__ne__" = some (some (.builtin "object.__ne__"))) (hs : findIn K (.ref C) "__eq__" = some (some (.ref f))) (hf : isFn K (.ref f) = true)
    (h : wpAny (model prog w) A.in1 (call (.ref f) [.ref x, b]) (fun v s' => ∃ k, v = .bool k ∧ Q (.bool (!k)) s') E s) : wpAny (model prog w) A (richCompare .NotEq (.ref x) b) Q E s := by
  have one : wpAny (model prog w) A (tryCompare (.ref x) "__ne__" b) (fun r s' => ∃ v, r = some v ∧ Q v s') E s := by
    unfold tryCompare
    refine wpAny_bind (sv_ifBound_ne X I hne (wpAny_call (codeAny_call_builtin F.cmp_object.ne.plain F.cmpEntry_ne (check_slot F.cmpKind_ne F.cmpSplit_ne (I.type.andThen (looks_mroIn X hm)) (F.cmpArgs_ne _ _)
      (sv_ne_entry (A := A.in1) hu X I hs hf (wpAny_mono h (fun v s' hv => ?_) fun _ _ e => e))))))
    obtain ⟨k, rfl, hq⟩ := hv
    exact ⟨k, rfl, by first | exact wpAny_pure ⟨_, rfl, hq⟩ | exact wpAny_pure (wpAny_pure ⟨_, rfl, hq⟩) | exact ⟨_, rfl, hq⟩⟩
  unfold richCompare
  simp only [oneThing_ref]
  refine wpAny_holding (wpAny_bind (wpAny_cRoomFor (Nat.lt_of_succ_lt hu) ?_))
  rw [cmpInfo_NotEq]
  dsimp only
  refine wpAny_bind (I.type.here (wpAny_bind (hb.here ?_)))
  split
  · rename_i q
    have e : subIn K tb (.ref C) = some false := by
      rcases Bool.or_eq_true_iff.mp hn with e | e
      · rw [beq_iff_eq.mp e] at q; simp at q
      · exact beq_iff_eq.mp e
    refine wpAny_bind ((looks_subIn X e).here ?_)
    simp only [Bool.false_eq_true, if_false]
    refine wpAny_bind (wpAny_mono one (fun r s' z => ?_) fun _ _ e => e)
    obtain ⟨v, rfl, hq⟩ := z
    exact wpAny_pure hq
  · refine wpAny_bind (wpAny_pure ?_)
    simp only [Bool.false_eq_true, if_false]
    refine wpAny_bind (wpAny_mono one (fun r s' z => ?_) fun _ _ e => e)
    obtain ⟨v, rfl, hq⟩ := z
    exact wpAny_pure hq
end
end PySem.W
namespace Sv
open PySem PySem.Spec PyProof.Rows L2
theorem nx_cmpop {Φ : Phi} {o : Co} {x y : PV} {S : Store} (h : isIns x = false) : NoEx (cmpop Φ o x y S) := by
  unfold cmpop
  split
  · rw [eqv_data h]; repeat' split
    all_goals exact trivial
  · rw [eqv_data h]; repeat' split
    all_goals exact trivial
  · repeat' split
    all_goals exact trivial
  · repeat' split
    all_goals exact trivial
  · split <;> exact trivial
/-- the own == of each class of the text that has one -/
structure EqAll (P : Program) (w : World) (K : PySem.W.Frag) (mg : Str → Option Value) (base : Heap) (B : Bk) (T : List (Addr × Str)) (Φ : Phi) (k : Nat) : Prop where
  nf : ∀ k tv C c, kdV B k = some tv → B.cls C = some c → PySem.W.notFirst K c tv = true
  nf2 : ∀ C c, B.cls C = some c → PySem.W.notFirst K c (.type "function") = true
  own : ∀ C c, B.cls C = some c → (∀ xs S, Φ (C + 1) xs S = .no) ∨ ∃ a fd ps, PySem.W.findIn K (.ref c) "__eq__" = some (some (.ref a)) ∧ PySem.W.findIn K (.ref c) "__ne__" = some (some (.builtin "object.__ne__")) ∧ PySem.W.isFn K (.ref a) = true ∧ Binds K fd ps [] ∧ ps.length = 2 ∧
    FnOk P w K mg base (L2.CX P w) k a fd ps (spF B T Φ (C + 1) ps.length)
section
variable {X : Cx} {B : Bk} {T : List (Addr × Str)} {Z : XK} {Φ : Phi} {k : Nat}
theorem kdOf_some {v : PV} {x : V} {S : Store} {ρ : List Addr} {H : Hp} (st : StR B T ρ H S) (r : VR B ρ H v x) (hc : ∀ j, v ≠ .clo j) : ∃ q, kdOf v S = some q := by
  cases v with
  | loc i =>
    obtain ⟨a, _, ha⟩ := vr_loc.mp r
    obtain ⟨c, e, _⟩ := st.cell ha
    cases c <;> (simp only [kdOf, e]; exact ⟨_, rfl⟩)
  | clo j => exact absurd rfl (hc j)
  | _ => exact ⟨_, rfl⟩
theorem cmp2_ok (si : Sit X B Z) (ca : ClsAll B) (eq : EqAll X.prog X.w X.K X.mg X.base B T Φ k) (hr : Room (k + 1) X.A) {o : Co} : OpR X (compareOp (coOp o)) (rCmp2 B T Z Φ o) := by
  intro pins s σ H x y v u Q I rx ry h
  obtain ⟨ex, ρ, S, vx, vy, st, r1, r2, h⟩ := h
  cases hi : isIns vx with
  | false => exact cmp_ok (B := B.wx ex) (T := T) (Φ := Φ) si.K si.units pins s σ H x y v u Q I rx ry ⟨ρ, S, vx, vy, hi, st, r1, r2, h.okV (nx_cmpop hi)⟩
  | true =>
    cases vx with
    | ins C fs =>
      obtain ⟨a, c, dx, vfs, rfl, hC, ha, _, _, _⟩ := vr_ins.mp r1
      cases rx
      obtain ⟨mA, J, _⟩ := ins_get I.hok ha
      obtain ⟨od, J, _⟩ := J.look
      obtain ⟨m, hF⟩ := I.fr
      have run : ∀ {A : Around} {R : Bool → Store → Rs PV} {QQ : Value → Shared → Prop} {af : Addr} {fd : FuncData} {ps : List Str}, Room k A → Env0 X.prog X.w X.K X.mg X.base A X.stack s H → Binds X.K fd ps [] → ps.length = 2 → FnOk X.prog X.w X.K X.mg X.base (L2.CX X.prog X.w) k af fd ps (spF B T Φ (C + 1) ps.length) →
          RG (B.wx ex) T Z (VR (B.wx ex)) ρ H ((Φ (C + 1) [.ins C fs, vy] S).bind fun r S1 => match r with
            | .bl b => R b S1
            | _ => .no) Q → (∀ b S1 ρ1 H1 s1, Go ρ ρ1 H H1 → StR (B.wx ex) T ρ1 H1 S1 → Inv X pins σ H1 s1 → RG (B.wx ex) T Z (VR (B.wx ex)) ρ1 H1 (R b S1) Q → QQ (.bool b) s1) →
          wpAny (model X.prog X.w) A (call (.ref af) [.ref a, u]) QQ X.xe s := fun {A R QQ af fd ps} hrA e0 hb hl F hq hk => by
        have hsp : spF B T Φ (C + 1) ps.length [.ref a, y] H (fun z H1 => ∃ b S1 ρ1, z = .bl b ∧ Go ρ ρ1 H H1 ∧ StR (B.wx ex) T ρ1 H1 S1 ∧ RG (B.wx ex) T Z (VR (B.wx ex)) ρ1 H1 (R b S1) Q) Z := by
          refine ⟨ex, ρ, S, [.ins C fs, vy], by rw [hl]; rfl, st, .cons r1 (.cons r2 .nil), hq.bind fun z ρ1 H1 w S1 g1 st1 rw h1 => ?_⟩
          cases w with
          | bl b => exact ⟨b, S1, ρ1, vr_bl.mp rw, g1, st1, h1⟩
          | _ => exact h1.elim
        have rr : Vals [V.ref a, y] [Value.ref a, u] := .cons rfl (.cons ry .nil)
        refine wpAny_call (codeAny_mono (F.run A X.stack s H ⟨[.ref a, u], []⟩ [.ref a, u] [.ref a, y] _ Z hrA e0 (by
          have := hb s [.ref a, u] I.kIn (by simp [hl])
          simpa using this) rr hsp) fun r s' hq' => ?_)
        cases r with
        | error e => exact passZ si pins σ H s e s' I hq'
        | ok fl =>
          cases fl with
          | ret z =>
            obtain ⟨zv, H1, I1, rz, b, S1, ρ1, ez, g1, st1, h1⟩ := I.after hq'
            subst ez
            cases rz
            exact hk b S1 ρ1 H1 _ g1 st1 I1 h1
          | next => exact False.elim hq'
          | brk => exact False.elim hq'
          | cont => exact False.elim hq'
      have goEq : ∀ {R : Bool → Store → Rs PV}, RG (B.wx ex) T Z (VR (B.wx ex)) ρ H ((Φ (C + 1) [.ins C fs, vy] S).bind fun r S1 => match r with
            | .bl b => R b S1
            | _ => .no) Q → ∃ af fd ps, PySem.W.findIn X.K (.ref c) "__eq__" = some (some (.ref af)) ∧ PySem.W.findIn X.K (.ref c) "__ne__" = some (some (.builtin "object.__ne__")) ∧ PySem.W.isFn X.K (.ref af) = true ∧ Binds X.K fd ps [] ∧ ps.length = 2 ∧
              FnOk X.prog X.w X.K X.mg X.base (L2.CX X.prog X.w) k af fd ps (spF B T Φ (C + 1) ps.length) := fun {R} hq => by
        rcases eq.own C c hC with z | z
        · rw [z] at hq; exact hq.elim
        · exact z
      have typ : ∃ tv, PySem.W.notFirst X.K c tv = true ∧ PySem.W.Looks (model X.prog X.w) s.heap (typeOf u) tv := by
        by_cases hclo : ∃ j, vy = .clo j
        · obtain ⟨j, rfl⟩ := hclo
          obtain ⟨f, d, cc, pm, ctv, rfl, _, hf, _⟩ := vr_clo.mp r2
          cases ry
          obtain ⟨hφ, _⟩ := (show ObjOk X.prog X.w H s.heap f (CloO f d cc pm ctv) from I.hok f _ hf)
          exact ⟨.type "function", eq.nf2 C c hC, (PySem.W.Looks.ld (show s.heap.get? f = some _ from hφ)).andThen .now⟩
        · obtain ⟨q, hq⟩ := kdOf_some st r2 fun j e => hclo ⟨j, e⟩
          obtain ⟨tv, htv, P, ZZ, p, _⟩ := kit_at (B := B.wx ex) si.K (ca.wx ex) I ry st r2 hq
          have htv' : kdV B q = some tv := by rw [← htv]; cases q <;> rfl
          exact ⟨tv, eq.nf q tv C c htv' hC, ZZ.ty _ _ I.kIn p⟩
      obtain ⟨tv, hnf, hlook⟩ := typ
      obtain ⟨_, _, hm, _⟩ := ca.cls C c hC
      rw [si.K] at hm
      cases o with
      | eq =>
        obtain ⟨af, fd, ps, h1, h2, h3, h4, h5, F⟩ := goEq h
        show wpAny _ _ (richCompare .Eq (.ref a) u) _ _ _
        refine PySem.W.cmp_K (op := .Eq) (by have := si.units; omega) hF I.ok.mod.kin J hlook hnf h1 h3 ?_
        exact run (hr.mono (by omega)) I.env0 h4 h5 F h fun b S1 ρ1 H1 s1 g1 st1 I1 h1 => ⟨.bl b, H1, I1, rfl, RG.bl h1 st1⟩
      | ne =>
        obtain ⟨af, fd, ps, h1, h2, h3, h4, h5, F⟩ := goEq h
        show wpAny _ _ (richCompare .NotEq (.ref a) u) _ _ _
        refine PySem.W.sv_cmp_ne (by have := si.units; omega) I.kIn J hlook hnf hm h2 h1 h3 ?_
        exact run hr.in1 I.env0.in1 h4 h5 F h fun b S1 ρ1 H1 s1 g1 st1 I1 h1 => ⟨b, rfl, .bl (!b), H1, I1, rfl, RG.bl h1 st1⟩
      | isIn =>
        exfalso
        unfold cmpop at h
        dsimp only at h
        split at h
        · split at h
          · rename_i e; unfold inOk isD at e; simp at e
          · exact h
        · exact h
      | notIn =>
        exfalso
        unfold cmpop at h
        dsimp only at h
        split at h
        · split at h
          · rename_i e; unfold inOk isD at e; simp at e
          · exact h
        · exact h
      | lt => exact h.elim
      | le => exact h.elim
      | gt => exact h.elim
      | ge => exact h.elim
    | _ => cases hi
end
end Sv
end

section
set_option Elab.async false
set_option linter.all false
set_option maxRecDepth 100000
set_option maxHeartbeats 2000000
/-! lambdas as values -/
namespace Sv
open PySem PySem.Spec PyProof.Rows L2
section
variable {X : Cx} {pins : List (Addr × Obj)} {σ : L2.St} {H : Hp} {s : Shared}
/-- an object of ours that stands is known from now on -/
theorem adopt {a : Addr} {o : HO} (I : L2.Inv X pins σ H s) (h0 : X.s_0.heap.get? a = none) (hn : H a = none) (nL : a ≠ X.env.locals) (nC : ∀ x c, X.env.cells.lookup x = some c → c ≠ a) (np : ∀ p ∈ X.pn ++ pins, p.1 ≠ a)
    (ok : ObjOk X.prog X.w (upd H a o) s.heap a o) : L2.Inv X pins σ (upd H a o) s := by
  have ne : ∀ b u, H b = some u → b ≠ a := fun b u e z => by rw [z, hn] at e; cases e
  have ne0 : ∀ b u, X.s_0.heap.get? b = some u → b ≠ a := fun b u e z => by rw [z, h0] at e; cases e
  refine ⟨I.ok, I.os, I.bare, ⟨I.base.keep, I.base.slot, fun b u e n hx => by rw [upd_ne (ne0 b u e)]; exact I.base.free b u e n hx, I.base.there, fun b xs e => ?_, fun b u x e => ?_, fun b ps e => ?_⟩, I.loc, I.cell, by rw [upd_ne nL.symm]; exact I.free, fun x c e => by rw [upd_ne (nC x c e)]; exact I.freeC x c e, fun p hp => ?_, I.hok.laidN (fun _ _ e => e) hn ok, I.len⟩
  · have q := I.base.tups b xs e
    rw [upd_ne (ne b _ q)]; exact q
  · have q := I.base.frzs b u x e
    rw [upd_ne (ne b _ q)]; exact q
  · obtain ⟨m, q⟩ := I.base.tbls b ps e
    exact ⟨m, by rw [upd_ne (ne b _ q)]; exact q⟩
  · obtain ⟨e, n, r⟩ := I.pin p hp
    exact ⟨e, by rw [upd_ne (np p hp)]; exact n, r⟩
/-- what the making of a lambda leaves of the abstract heap -/
structure LamG (T : List (Addr × Str)) (H H1 : Hp) (q : Str) (c' : Addr) : Prop where
  ext : LamX.ExtN H H1
  live : ∀ a, H a ≠ none → H1 a ≠ none
  tabs : LamX.Tabs T H1
  code : H1 c' = some (LamX.CodeO c' q)
/-- a lambda is made -/
theorem lam_make4 {T : List (Addr × Str)} {c P : Addr} {params : Arguments} {body : Expr} {scope : Scope} {pos : Pos} {E : Value → Shared → Prop} {Q : Value → Shared → Prop} (I : L2.Inv X pins σ H s) (TB : LamX.TabB X.base X.mg c P) (hcode : X.env.code = .ref c)
    (hm : (P, X.env.qual ++ "<lambda>") ∈ T) (hu : ∀ p ∈ T, p.1 = P → p.2 = X.env.qual ++ "<lambda>") (hT : LamX.Tabs T H) (hdef : defaultsOf params X.env = ([], [])) (hfree : ∀ y ∈ scope.names, y.2 = .free → ∃ c, X.env.cells.lookup y.1 = some c)
    (h : ∀ (f c' : Addr) (pm ctv : Value) (H1 : Hp) (s' : Shared), L2.Inv X pins σ H1 s' → LamG T H H1 (X.env.qual ++ "<lambda>") c' →
      s'.heap.get? f = some (PySem.W.kla_obj "<lambda>" (X.env.qual ++ "<lambda>") params body scope (cloFrom X.env.cells scope.names []) pm c' ctv) → s.heap.objs.size ≤ f → H f = none → H1 f = none → f ∉ frs X.stack → Q (.ref f) s') :
    wpAny (model X.prog X.w) X.A (eval (.Lambda params body scope pos) X.env) Q E s := by
  obtain ⟨ps, hP, ht, ha⟩ := hT _ hm
  refine PySem.W.kla_eval hdef ?_
  have bP : s.heap.BuiltinsAt X.mg P := TB.bm.keeps I.bk
  have hP' : s.heap.get? P = some { cls := .none, data := .fields ps } := I.hok P _ hP
  have nofr : ∀ f, s.heap.objs.size ≤ f → f ∉ frs X.stack := fun f hf z => by
    rcases List.mem_cons.mp (I.stkSub _ z) with e | e
    · have h1 := I.lt
      rw [← e] at h1
      exact Nat.lt_irrefl _ (Nat.lt_of_lt_of_le h1 hf)
    · exact I.nofs hf e
  cases hc : codeAmong pos ps.toList with
  | none =>
    refine PySem.W.kla_makeFunction (mg := X.mg) (c := c) (P := P) (ps := ps) (closure_ok hfree) I.ok.glob (I.mod.glob.keeps I.bk) hcode (TB.code.keeps I.bk) hP' ht hc TB.gP bP fun c' ctv h' tk hx hge hlt hrec htb => ?_
    obtain ⟨c2, oc, vs, t, e2, hoc, hd, hv⟩ := hrec
    cases e2
    have hsz : s.heap.objs.size ≤ h'.objs.size := Nat.le_trans hge (Nat.le_of_lt hlt)
    have nC : H c' = none := I.hok.fresh hge
    have I0 := LamX.inv_table (q := X.env.qual ++ "<lambda>") (t' := tk) (more := #[rawInt pos.line, rawInt pos.col, .ref c']) (h' := h') I hP (fun b o hb e => hx b o hb e) htb hge ⟨oc, vs, t, hoc, hd, hv⟩
    have I1 := I0.kept (h' := h'.push (PySem.W.kla_obj "<lambda>" (X.env.qual ++ "<lambda>") params body scope (cloFrom X.env.cells scope.names []) ((X.mg "__name__").getD .none) c' ctv)) (t' := tk) fun b o e => Heap.get?_push_of_some _ e
    have hE : LamX.ExtN H (upd (upd H P (.tbl (ps ++ #[rawInt pos.line, rawInt pos.col, .ref c']))) c' (LamX.CodeO c' (X.env.qual ++ "<lambda>"))) := fun b o e n => by
      rw [upd_ne (ne_of_none e nC), upd_ne (fun z => n ps (Option.some.inj (e.symm.trans (by rw [z]; exact hP))))]
      exact e
    have eL : (ps ++ #[rawInt pos.line, rawInt pos.col, .ref c']).toList = ps.toList ++ [rawInt pos.line, rawInt pos.col, .ref c'] := by simp
    have n1 : h'.objs.size ≠ c' := Nat.ne_of_gt hlt
    have n2 : h'.objs.size ≠ P := Nat.ne_of_gt (Nat.lt_of_lt_of_le (Heap.lt_size hP') hsz)
    refine h h'.objs.size c' ((X.mg "__name__").getD .none) ctv _ _ I1 ⟨hE, fun a e => ?_, fun p hp => ?_, upd_same⟩ (Heap.get?_push_size _ rfl) hsz (I.hok.fresh hsz) (by rw [upd_ne n1, upd_ne n2]; exact I.hok.fresh hsz) (nofr _ hsz)
    · by_cases h1 : a = c'
      · rw [h1, upd_same]; simp
      · rw [upd_ne h1]
        by_cases h2 : a = P
        · rw [h2, upd_same]; simp
        · rw [upd_ne h2]; exact e
    · by_cases hb : p.1 = P
      · rw [hu p hp hb, hb]
        refine ⟨_, by rw [upd_ne (ne_of_none hP nC), upd_same], by rw [eL]; exact PySem.TriplesOk_snoc _ _ _ _ ht, fun p' cv hcv => ?_⟩
        rw [eL] at hcv
        rcases LamX.among_app _ ht hcv with z | z
        · obtain ⟨c0, e1, e2⟩ := ha p' cv z
          exact ⟨c0, e1, hE _ _ e2 LamX.codeO_ne⟩
        · exact ⟨c', z, upd_same⟩
      · obtain ⟨ps', a1, a2, a3⟩ := hT p hp
        refine ⟨ps', by rw [upd_ne (ne_of_none a1 nC), upd_ne hb]; exact a1, a2, fun p' cv hcv => ?_⟩
        obtain ⟨c0, e1, e2⟩ := a3 p' cv hcv
        exact ⟨c0, e1, hE _ _ e2 LamX.codeO_ne⟩
  | some cv =>
    obtain ⟨c', e, hco⟩ := ha pos cv hc
    subst e
    refine PySem.W.kla_makeFunctionHit (mg := X.mg) (c := c) (P := P) (ps := ps) (closure_ok hfree) I.ok.glob (I.mod.glob.keeps I.bk) hcode (TB.code.keeps I.bk) hP' ht hc bP fun ctv h' tk hx hsz => ?_
    have I1 : L2.Inv X pins σ H { s with heap := h'.push (PySem.W.kla_obj "<lambda>" (X.env.qual ++ "<lambda>") params body scope (cloFrom X.env.cells scope.names []) ((X.mg "__name__").getD .none) c' ctv), toks := tk } := I.kept fun b o e => Heap.get?_push_of_some _ (hx b o e)
    exact h h'.objs.size c' ((X.mg "__name__").getD .none) ctv H _ I1 ⟨LamX.ExtN.refl H, fun _ e => e, hT, hco⟩ (Heap.get?_push_size _ rfl) hsz (I.hok.fresh hsz) (I.hok.fresh hsz) (nofr _ hsz)
end
section
variable {B : Bk} {T : List (Addr × Str)} {Z : XK} {Φ : Phi} {ex ρ : List Addr} {H H1 : Hp} {S : Store} {sg : Sg} {σ : L2.St} {X : Cx} {q : Str} {c' : Addr} {pos : Pos}
theorem lamG_go (st : StR B T ρ H S) (g : LamG T H H1 q c') : StR B T ρ H1 S ∧ Go ρ ρ H H1 := by
  have g1 : Go ρ ρ H H1 := ⟨List.prefix_refl _, fun _ h => .inl h, fun a o e _ n => g.ext a o e n, g.live⟩
  refine ⟨⟨st.len, st.nd, fun i a c e1 e2 => ?_, g.tabs, st.ex, fun a ha => ?_⟩, g1⟩
  · obtain ⟨o, ho, n, _⟩ := (st.cl i a c e1 e2).stands
    exact (st.cl i a c e1 e2).mono g1 (by rw [g.ext a o ho n, ho])
  · obtain ⟨o, ho, n, n2⟩ := st.exs a ha
    exact ⟨o, g.ext a o ho n, n, n2⟩
theorem cr_noext {a : Addr} {c : Cl} (h : CR B ρ H a c) : ∀ φ, H a ≠ some (.ext φ) := fun φ z => by
  cases c with
  | lst xs => obtain ⟨vs, e, _⟩ := h; rw [e] at z; cases z
  | dct xs => obtain ⟨vs, e, _⟩ := h; rw [e] at z; cases z
  | ins C xs => obtain ⟨c, dx, vs, e, _⟩ := h; rw [e] at z; cases z
theorem ext_out {a : Addr} {φ : Heap → Prop} (st : StR B T ρ H S) (e : H a = some (.ext φ)) : out B ρ a := by
  refine ⟨fun hm => ?_, fun hm => ?_⟩
  · obtain ⟨i, hi⟩ := List.mem_iff_getElem?.mp hm
    obtain ⟨c, _, q⟩ := st.cell hi
    exact cr_noext q φ e
  · obtain ⟨o, ho, _, n⟩ := st.exs a hm
    rw [e] at ho; cases ho
    exact n φ rfl
/-- lambda ..: .., nothing captured -/
theorem nd_clo {k : Nat} {c P : Addr} {params : Arguments} {body : Expr} {scope : Scope} (hl : B.lam k = some ⟨X.env.qual ++ "<lambda>", params, body, scope⟩) (TB : LamX.TabB X.base X.mg c P) (hcode : X.env.code = .ref c)
    (hm : (P, X.env.qual ++ "<lambda>") ∈ T) (hu : ∀ p ∈ T, p.1 = P → p.2 = X.env.qual ++ "<lambda>") (hdef : defaultsOf params X.env = ([], [])) (hfree : ∀ y ∈ scope.names, y.2 ≠ .free) : PE X (.Lambda params body scope pos) (rdE B T Z Φ (.clo k)) := by
  have hclo : ∀ (cells : List (Str × Addr)) (names : List (Str × NameKind)), (∀ y ∈ names, y.2 ≠ .free) → cloFrom cells names [] = [] := fun cells names => by
    induction names with
    | nil => intro _; rfl
    | cons y r ih =>
      intro h
      obtain ⟨n, kd⟩ := y
      unfold cloFrom
      have : (kd == NameKind.free) = false := by
        have := h (n, kd) List.mem_cons_self
        cases kd <;> first | rfl | exact absurd rfl this
      rw [this]
      exact ih fun y hy => h y (List.mem_cons_of_mem _ hy)
  refine ⟨fun pins s σ H Q I ⟨ex, ρ, S, sg, st, sr, h⟩ => ?_⟩
  rw [ev] at h
  refine lam_make4 I TB hcode hm hu st.tabs hdef (fun y hy e => absurd e (hfree y hy)) fun f c' pm ctv H1 s' I1 G hf hsz hf0 hf1 hfr => ?_
  rw [hclo _ _ hfree] at hf
  obtain ⟨st1, g1⟩ := lamG_go st G
  have n0 : X.s_0.heap.get? f = none := by
    cases e : X.s_0.heap.get? f with
    | none => rfl
    | some o => exact absurd (Nat.lt_of_lt_of_le (Heap.lt_size e) (Nat.le_trans I.sz hsz)) (Nat.lt_irrefl _)
  have nL : f ≠ X.env.locals := Nat.ne_of_gt (Nat.lt_of_lt_of_le I.lt hsz)
  have nC : ∀ x c, X.env.cells.lookup x = some c → c ≠ f := fun x c e => by
    obtain ⟨v, q⟩ := I.cell x c e
    exact Nat.ne_of_lt (Nat.lt_of_lt_of_le q.lt hsz)
  have np : ∀ p ∈ X.pn ++ pins, p.1 ≠ f := fun p hp => Nat.ne_of_lt (Nat.lt_of_lt_of_le (Heap.lt_size (I.pin p hp).1) hsz)
  have I2 := adopt (o := CloO f ⟨X.env.qual ++ "<lambda>", params, body, scope⟩ c' pm ctv) I1 n0 hf1 nL nC np ⟨hf, ⟨_, hf⟩, fun h1 h2 a st => st _ a⟩
  obtain ⟨st2, g2, o2⟩ := st1.fresh (o := CloO f ⟨X.env.qual ++ "<lambda>", params, body, scope⟩ c' pm ctv) hf1
  have hcf : c' ≠ f := fun z => by have := G.code; rw [z, hf1] at this; cases this
  have hc2 : upd H1 f (CloO f ⟨X.env.qual ++ "<lambda>", params, body, scope⟩ c' pm ctv) c' = some (LamX.CodeO c' (X.env.qual ++ "<lambda>")) := by rw [upd_ne hcf]; exact G.code
  have hc3 := hc2
  unfold LamX.CodeO at hc3
  exact ⟨.ref f, _, I2, rfl, h _ ρ _ (g1.trans g2) st2 (vr_clo.mpr ⟨f, _, c', pm, ctv, rfl, hl, upd_same, o2, hc2, ext_out st2 hc3⟩)⟩
/-! ### a closure is called -/
/-- the lambda j runs as its plain meaning tells -/
def LamOk (P : Program) (w : World) (K : PySem.W.Frag) (mg : Str → Option Value) (base : Heap) (B : Bk) (T : List (Addr × Str)) (Φ : Phi) (k j : Nat) (d : LamD) (n : Nat) : Prop :=
  (∀ xs S, xs.length ≠ n → Φ j xs S = .no) ∧ ∀ (A : Around) (outer : List Env) (s : Shared) (H : Hp) (f c : Addr) (pm ctv : Value) (us : List Value) (vs : List V) (Q : VK) (Z : XK), Room k A → Env0 P w K mg base A outer s H → H f = some (CloO f d c pm ctv) → H c = some (LamX.CodeO c d.qual) → Vals vs us → spF B T Φ j n vs H Q Z →
    codeAny (model P w) A (.call (.ref f) ⟨us, []⟩) (L2.CR (L2.CX P w) outer P w H s Q Z) s
def LamAll (P : Program) (w : World) (K : PySem.W.Frag) (mg : Str → Option Value) (base : Heap) (B : Bk) (T : List (Addr × Str)) (Φ : Phi) (k : Nat) : Prop := ∀ j d, B.lam j = some d → ∃ n, LamOk P w K mg base B T Φ k j d n
theorem lam_of {P : Program} {w : World} {K : PySem.W.Frag} {mg : Str → Option Value} {base : Heap} {k j nl : Nat} {d : LamD} {N ps : List Str} {e : E} {Φ' : Phi} (Sc : FnScope N ps d.scope) (hnl : N.length = nl) (hps : ps.length ≤ nl)
    (hbind : ∀ (pm cv ctv : Value) (us : List Value), us.length = ps.length → bindArgs (PySem.W.kla_fn "<lambda>" d.qual d.params d.body d.scope [] pm cv ctv) ⟨us, []⟩ = pure (ps.zip us))
    (hrun : ∀ xs S, Φ j xs S = runF Φ' (.lam ps.length nl e) j xs S)
    (hbody : ∀ (f : Addr) (cdv : Value) (A : Around) (outer : List Env) (s : Shared) (H : Hp) (Z : XK), Room k (A.deeper (envOfC d.qual d.scope s.heap.objs.size f cdv)) → PE (cxOf (L2.CX P w) P w K mg base N d.qual d.scope f cdv A outer s H Z) d.body (rdE B T Z Φ' e)) :
    LamOk P w K mg base B T Φ (k + 1) j d ps.length := by
  refine ⟨fun xs S hx => by rw [hrun]; unfold runF; dsimp only; rw [if_neg hx], fun A outer s H f c pm ctv us vs Q Z hr e0 hf hc r h => ?_⟩
  obtain ⟨ex, ρ, S, xs, hlen, st, rs, h⟩ := h
  rw [hrun] at h
  unfold runF at h
  dsimp only at h
  split at h
  rotate_left
  · exact h.elim
  obtain ⟨hfo, _⟩ := (show ObjOk P w H s.heap f (CloO f d c pm ctv) from e0.hok f _ hf)
  obtain ⟨⟨oc, vs', t, hoc, hdc, hvc⟩, _, _⟩ := (show ObjOk P w H s.heap c (LamX.CodeO c d.qual) from e0.hok c _ hc)
  have lim : s.heap.NoLimit := e0.mod.nolimit.keeps fun b o e => (e0.bs b o e).1
  have hul : us.length = ps.length := by rw [← r.length]; exact hlen
  have hkind : ∀ y ∈ ps.zip us, d.scope.names.lookup y.1 = some .local ∨ (d.scope.names.lookup y.1 = some .cell ∧ ((cellsFrom (s.heap.objs.size + 1) d.scope.names []).lookup y.1).isSome = true) := fun ⟨n, v⟩ hy => by
    rcases Sc.par n (List.of_mem_zip hy).1 with q | q
    · exact .inl q
    · exact .inr ⟨q, PySem.W.cellsFrom_some _ _ _ (.inl q)⟩
  refine PySem.W.kla_callFunE hr.depth hfo rfl Sc.co Sc.gen rfl ⟨c, oc, vs', t, rfl, hoc, hdc, hvc⟩ ?_
  rw [hbind _ _ _ us hul]
  refine wpAny_pure (wpAny_newFunctionEnv_cells Sc.kind hkind fun env he s1 x => ?_)
  subst he
  refine ⟨lim.keeps x.toInCall.keep, ?_⟩
  have I : L2.Inv (cxOf (L2.CX P w) P w K mg base N d.qual d.scope f (.ref c) A outer s H Z) [] (L2.start N vs) H s1 := inv_start Sc hr.hd e0 hlen r x
  have hq : rdE B T Z Φ' e (L2.start N vs) H Q := by
    refine ⟨ex, ρ, S, startS nl xs, st, start_sg rs hnl (by omega), ?_⟩
    cases e1 : ev Φ' e (startS nl xs) S with
    | ok v S1 => rw [e1] at h; exact fun x ρ' H' g st' rx => leave_ok st g st' rx h
    | ex c S1 =>
      rw [e1] at h
      unfold fin at h
      dsimp only [Rs.bind] at h
      split at h
      · rename_i ho
        exact fun ρ' H' C k g st' e1 e2 => h ρ H' C k g.shrink (old_ok st g st' ho.1) e1 e2
      · exact h.elim
    | no => rw [e1] at h; exact h.elim
  refine PySem.W.kla_codeExpr (wpAny_mono ((hbody f (.ref c) A outer s H Z (hr.deeper _)).run [] s1 (L2.start N vs) H Q I hq) (fun v s' hv => ?_) fun e s' hs => hs)
  obtain ⟨y, H', J, ry, q⟩ := hv
  exact ⟨y, H', J.os, J.bare, J.base, J.hok, ry, q⟩
theorem nd_callv (si : Sit X B Z) {k : Nat} {pf pa : Expr} {es : List Expr} {f : E} {el : Es} (la : LamAll X.prog X.w X.K X.mg X.base B T Φ k) (hr : Room k X.A) (hc : ∀ env, eval (.Call pf (pa :: es) [] pos) env = (do callWith pos (← eval pf env) [] (backTo pos (starEach (pa :: es) env)) (backToKw pos (keywordEach [] env))))
    (hf : PE X pf (rdE B T Z Φ f)) (ha : PA X (pa :: es) (rdEs B T Z Φ el)) (he : starEach (pa :: es) X.env = (false, eval pa X.env) :: starEach es X.env) (hpl : (backTo pos (starEach es X.env)).any (·.1) = false) : PE X (.Call pf (pa :: es) [] pos) (rdE B T Z Φ (.callv f el)) := by
  refine ⟨fun pins s σ H Q I ⟨ex, ρ, S, sg, st, sr, h⟩ => ?_⟩
  rw [ev] at h
  rw [hc]
  refine wpAny_bind (thn (hf.run pins s σ H _ I (goE st sr h fun x ρ1 H1 v S1 g1 st1 sr1 r1 h1 => (⟨ρ1, S1, v, st1, sr1, r1, h1⟩ : ∃ ρ1 S1 v, StR (B.wx ex) T ρ1 H1 S1 ∧ SgR (B.wx ex) ρ1 H1 sg σ ∧ VR (B.wx ex) ρ1 H1 v x ∧ RG (B.wx ex) T Z (VR (B.wx ex)) ρ1 H1 (match v with
    | .clo k => (evs Φ el sg S1).bind fun xs S2 => Φ k xs S2
    | _ => .no) Q))) fun u s1 ⟨x, H1, I1, ru, ρ1, S1, v, st1, sr1, r1, h1⟩ => ?_)
  cases v with
  | clo j =>
    obtain ⟨a, d, c, pm, ctv, rfl, hl, hfa, oa, hca, oc⟩ := vr_clo.mp r1
    cases ru
    obtain ⟨n, hlen, run⟩ := la j d hl
    obtain ⟨hfo, _⟩ := (show ObjOk X.prog X.w H1 s1.heap a (CloO a d c pm ctv) from I1.hok a _ hfa)
    refine PySem.W.callWith_F ⟨_, _, _, _, hfo⟩ (thn (ha.run pos pins s1 σ H1 _ I1 (goEs st1 sr1 h1 fun vs ρ2 H2 xs S2 g2 st2 sr2 r2 h2 => (⟨ρ2, S2, xs, g2, st2, r2, h2⟩ : ∃ ρ2 S2 xs, Go ρ1 ρ2 H1 H2 ∧ StR (B.wx ex) T ρ2 H2 S2 ∧ VRs (B.wx ex) ρ2 H2 xs vs ∧ RG (B.wx ex) T Z (VR (B.wx ex)) ρ2 H2 (Φ j xs S2) Q))) fun us s2 ⟨vs, H2, I2, rus, ρ2, S2, xs, g2, st2, r2, h2⟩ => ?_) he hpl
    have hfa2 := g2.keep a _ hfa oa.1 (fun _ z => by unfold CloO at z; cases z)
    have hca2 := g2.keep c _ hca oc.1 (fun _ z => by unfold LamX.CodeO at z; cases z)
    obtain ⟨hfo2, _⟩ := (show ObjOk X.prog X.w H2 s2.heap a (CloO a d c pm ctv) from I2.hok a _ hfa2)
    refine ⟨⟨_, _, _, _, hfo2⟩, wpAny_call (codeAny_mono (run X.A X.stack s2 H2 a c pm ctv us vs Q Z hr I2.env0 hfa2 hca2 rus (call_read hlen st2 r2 h2)) fun r s' hq => ?_)⟩
    cases r with
    | error e => exact passZ si pins σ H2 s2 e s' I2 hq
    | ok fl =>
      cases fl with
      | ret z => exact I2.after hq
      | next => exact False.elim hq
      | brk => exact False.elim hq
      | cont => exact False.elim hq
  | _ => exact h1.elim
end
end Sv
end

section
set_option Elab.async false
set_option linter.all false
set_option maxRecDepth 100000
set_option maxHeartbeats 2000000
/-! what a lambda raises is caught -/
namespace Sv
open PySem PySem.Spec PyProof.Rows L2
/-- what 'except x as n' wishes of an exception of the body, the error known as a value from then on; m: how many slots -/
def wEx (K : PySem.W.Frag) (c : Value) (i m : Nat) (ts : Addr → TS) (Wout : WX) (D : Ends) : WX := fun cls d σ H => σ.length = m →
  ∃ b, PySem.W.exmOne K cls c = some b ∧ (b = true → d = none ∧ ∃ k, cls = .ref k ∧ ∀ a, H a = none → ts a { nx := fun σ' H' => D.nx (σ'.set i none) H', rt := D.rt, bk := fun σ' H' => D.bk (σ'.set i none) H', ct := fun σ' H' => D.ct (σ'.set i none) H' } (σ.set i (some (.ref a))) (upd H a (ExcO a k))) ∧
    (b = false → Wout cls d σ H)
section
variable {X : Cx} {x n : Str} {c : Value} {i : Nat} {body suite : List Stmt} {b₀ : Stmt} {np pos pos' : Pos} {tb : WX → TS} {ts : Addr → TS} {Wout : WX}
theorem ps_try_exc (hs : X.stack = X.env :: X.outer) (hf : X.env.frame = some X.env.locals) (hex : X.ex = []) (hN : X.N.Nodup) (hi : X.N[i]? = some n) (hln : X.env.kindOf n = some .local) (hc : Names X x c) (tk : Takes X Wout)
    (hb : ∀ (W : WX) (pn : List (Addr × Obj)) (xe : Value → Shared → Prop), Takes (X.tr pn xe) W → PassesOwn (model X.prog X.w) X.A X.env xe → PSs (X.tr pn xe) body (tb W))
    (hsu : ∀ (a : Addr) (pn : List (Addr × Obj)), PSs (X.suite a pn) (b₀ :: suite) (ts a)) :
    PS X (.Try body [.ExceptHandler (some (.Name x np)) (some n) (b₀ :: suite) pos'] [] [] pos) (fun D σ H => tb (wEx X.K c i X.N.length ts Wout D) D σ H) := by
  refine ⟨fun pins s σ H D I h => ?_⟩
  have ok := I.ok
  have hfr : X.A.frames = some (X.env :: X.outer) := by rw [ok.frames, hs]
  have hloc : Loc X.env.scope n := .inl hln
  refine wpAny_Try_except ?_
  refine wpAny_mono ((hb (wEx X.K c i X.N.length ts Wout D) (X.pn ++ pins) (fun e s₁ => wpAny (model X.prog X.w) X.A (noteFrame e X.env) (fun _ s₂ => wpAny (model X.prog X.w) X.A (setFlight e none) (fun _ s₃ =>
    wpAny (model X.prog X.w) X.A (handleBy e X.env [.ExceptHandler (some (.Name x np)) (some n) (b₀ :: suite) pos']) (SP X pins D) X.xe s₃) X.xe s₂) X.xe s₁) (fun u s' xx => ?_) PassesOwn.looking).run [] s σ H D (I.toTry _) h) (fun f s1 hsp => ?_) (fun e s1 he => he)
  · obtain ⟨a, B, sI, pins', σ', H', cls, d, rfl, J', nb, up, sky, na, os, ag, hw⟩ := xx
    obtain ⟨b, hb1, hyes, hno⟩ := hw J'.len
    have J : L2.Inv X pins σ' H' sI := J'.ofTry ok
    have sky' : Sky B (X.env :: X.outer) a (Zc cls d) X.env.locals s'.heap := by rw [← hs]; exact sky
    show wpAny (model X.prog X.w) X.A (noteFrame (.ref a) X.env) _ _ _
    refine Sky.land Zc.steady hfr hf sky' fun h3 fl3 up3 => ?_
    have J3 : L2.Inv X pins σ' H' { s' with heap := h3 } := J.landed nb fl3.1 (up.trans up3) os ag
    obtain ⟨oe3, vs3, he3, hz3, hd3⟩ := fl3.there
    have notFr : ∀ {h : Heap} {o : Obj} {vs : Array Value}, h.FunFrames B (X.env :: X.outer) → h.get? a = some o → o.data = .fields vs → a ∉ frs (X.env :: X.outer) := fun {h o vs} ff e dd hm => by
      obtain ⟨_, o', e', hnf⟩ := ff.mem hm
      rw [e] at e'; cases e'
      exact hnf _ dd
    have nfr := notFr fl3.2.2.1 he3 hd3
    have nL : a ≠ X.env.locals := fun z => nfr (List.mem_filterMap.mpr ⟨X.env, List.mem_cons_self, by rw [hf, z]⟩)
    have nF : a ∉ X.fs := fun hm => by
      obtain ⟨e, he, q⟩ := List.mem_filterMap.mp hm
      exact nfr (List.mem_filterMap.mpr ⟨e, List.mem_cons_of_mem _ he, q⟩)
    have nI : ∀ o, sI.heap.get? a = some o → False := fun o e => by
      have q := nb a o e (by rw [hs]; exact nfr)
      rw [fl3.2.1] at q; cases q
    have n0 : X.s_0.heap.get? a = none := by
      cases e : X.s_0.heap.get? a with
      | none => rfl
      | some o =>
        obtain ⟨o', q⟩ := J.base.there a o e (by rw [hex]; exact fun z => nomatch z)
        exact (nI o' q).elim
    have nC : ∀ x c, X.env.cells.lookup x = some c → c ≠ a := fun x c e z => by
      obtain ⟨v, o, q, _⟩ := J.cell x c e
      exact nI o (z ▸ q)
    have nP : ∀ p ∈ X.pn ++ pins, p.1 ≠ a := fun p hp z => nI p.2 (z ▸ (J.pin p hp).1)
    have toS : ∀ {H5 : Hp} {s5 : Shared}, L2.Inv X pins σ' H5 s5 → L2.Inv (X.suite a (X.pn ++ pins)) [] σ' H5 s5 := fun {H5 s5} J => ⟨J.ok.suite _ _, J.os, J.bare, J.base, J.loc, J.cell, J.free, J.freeC, fun p hp => J.pin p (by rw [List.append_nil] at hp; exact hp), J.hok, J.len⟩
    have ofS : ∀ {σ5 : L2.St} {H5 : Hp} {s5 : Shared}, L2.Inv (X.suite a (X.pn ++ pins)) [] σ5 H5 s5 → L2.Inv X pins σ5 H5 s5 := fun {σ5 H5 s5} J => ⟨ok, J.os, J.bare, J.base, J.loc, J.cell, J.free, J.freeC, fun p hp => J.pin p (List.mem_append_left _ hp), J.hok, J.len⟩
    refine wpAny_handleBy_cons (codeAny_handlers_test ?_) (by intro q; cases q)
    have LT : PySem.W.Looks (model X.prog X.w) h3 (typeOf (.ref a)) cls := fun A Q E s k q => wpAny_typeOf_ref (k _ _ he3) (by rw [hz3.1]; exact q)
    have LM := PySem.W.exm_one (M := model X.prog X.w) (J3.kIn) LT hb1
    have S3 := toS J3
    have test : ∀ {Q : Value → Shared → Prop} {E : Value → Shared → Prop}, Q c { s' with heap := h3 } → wpAny (model X.prog X.w) (X.A.mark (some (.ref a))) (eval (.Name x np) X.env) Q E { s' with heap := h3 } := fun {Q E} q => by
      obtain ⟨hg, hdbg, hm | ⟨hm, hv, hnn⟩⟩ := hc
      · exact ld_glob (X := X.suite a (X.pn ++ pins)) S3 hg hm q hdbg
      · exact ld_blt (X := X.suite a (X.pn ++ pins)) S3 hg hm hv q hnn hdbg
    refine test (LM.here ?_)
    cases b with
    | true =>
      obtain ⟨hdn, k, hck, hts⟩ := hyes rfl
      refine codeAny_handlers_suite_as ?_
      refine HandSPX.lands_againZ fl3 fun h4 fl4 up4 => ?_
      have J4 : L2.Inv X pins σ' H' { s' with heap := h4 } := J.landed nb fl4.1 ((up.trans up3).trans up4) os ag
      obtain ⟨oe4, vs4, he4, hz4, hd4⟩ := fl4.there
      have J5 : L2.Inv X pins σ' (upd H' a (ExcO a k)) { s' with heap := h4 } := adopt J4 n0 na nL nC nP ⟨⟨oe4, vs4, he4, by rw [hz4.1, hck], by rw [hz4.2, hdn], hd4⟩, ⟨_, he4⟩, fun h1 h2 ⟨o, v, q, r⟩ st => ⟨o, v, st o q, r⟩⟩
      refine store_ok (X := X.suite a (X.pn ++ pins)) (v := .ref a) (toS J5) hN hi hloc rfl (fun s5 S5 => ?_) (.inr hln)
      refine wpAny_mono ((hsu a (X.pn ++ pins)).run [] s5 _ _ _ S5 (hts a na)) (fun f s6 hsp => ?_) (fun _ _ z => False.elim z)
      have end_ : ∀ {σ6 : L2.St} {H6 : Hp} {Q : Shared → Prop}, L2.Inv (X.suite a (X.pn ++ pins)) [] σ6 H6 s6 → (∀ s7, L2.Inv X pins (σ6.set i none) H6 s7 → Q s7) →
          wpAny (model X.prog X.w) X.A (do bindName X.env n .none; unbindBehindTheSuite X.env n pos') (fun _ s7 => Q s7) X.xe s6 := fun {σ6 H6 Q} S6 hq => gone_ok (ofS S6) hN hi hln hq
      cases f with
      | next =>
        obtain ⟨σ6, H6, S6, q6⟩ := hsp
        exact end_ S6 fun s7 J7 => ⟨_, _, J7, q6⟩
      | brk =>
        obtain ⟨σ6, H6, S6, q6⟩ := hsp
        exact end_ S6 fun s7 J7 => ⟨_, _, J7, q6⟩
      | cont =>
        obtain ⟨σ6, H6, S6, q6⟩ := hsp
        exact end_ S6 fun s7 J7 => ⟨_, _, J7, q6⟩
      | ret u =>
        obtain ⟨v6, σ6, H6, S6, r6, q6⟩ := hsp
        exact end_ S6 fun s7 J7 => ⟨_, _, _, J7, r6, q6⟩
    | false =>
      show wpAny _ X.A (handleBy (.ref a) X.env []) _ _ _
      refine wpAny_handleBy_nil ?_
      obtain ⟨k1, k2, k3, oe, vs, T, oT, ts', he, hz, hd, h1, hr⟩ := id fl3
      unfold PySem.passOn
      refine wpAny_bind (wpAny_field he hd h1 ?_)
      rw [if_neg (show ¬ ((Value.ref T == Value.none) = true) from by simp)]
      have fin : wpAny (model X.prog X.w) X.A (setFlight (.ref a) X.env.frame) (fun _ s4 => wpAny (model X.prog X.w) X.A (throw (.ref a) : Sem Flow) (SP X pins D) X.xe s4) X.xe { s' with heap := h3 } := by
        rw [hf]
        refine HandSPX.setFlight_upZ fl3 fun h4 hh4 up4 => wpAny_throw (tk _ _ ?_)
        exact ⟨a, B, sI, pins, σ', H', cls, d, rfl, J, nb, (up.trans up3).trans up4, .inr (.inr (by rw [hs]; exact hh4)), na, os, ag, hno rfl⟩
      first
        | exact wpAny_bind (wpAny_pure (wpAny_bind fin))
        | exact wpAny_bind fin
  · cases f with
    | next =>
      obtain ⟨σ', H', J', q⟩ := hsp
      exact wpAny_execs_nil ⟨σ', H', J'.ofTry ok, q⟩
    | brk =>
      obtain ⟨σ', H', J', q⟩ := hsp
      exact ⟨σ', H', J'.ofTry ok, q⟩
    | cont =>
      obtain ⟨σ', H', J', q⟩ := hsp
      exact ⟨σ', H', J'.ofTry ok, q⟩
    | ret u =>
      obtain ⟨v, σ', H', J', r, q⟩ := hsp
      exact ⟨v, σ', H', J'.ofTry ok, r, q⟩
end
/-- the error that is told, or None -/
def TTc (K : PySem.W.Frag) (CS : Addr) : (XK → Hp → VK → Prop) → Hp → VK → Prop := fun tl H Q => ∀ R : Hp → Prop, (∀ H', Q .non H' → R H') →
  tl (fun cls d H' => ∃ k, cls = .ref k ∧ d = none ∧ PySem.W.exmOne K cls (.ref CS) = some true ∧ ∀ a, H' a = none → Q (.ref a) (upd H' a (ExcO a k))) H (fun _ H' => R H')
section
variable {X : Cx}
theorem caught_gives {Ng : List Str} {x a hv er e q : Str} {sg : Scope} {g CS : Addr} {cdg : Value} {ih ie : Nat} {j : Nat} {p1 p2 p3 p4 p5 p6 p7 p8 p9 p10 p11 p12 p13 p14 : Pos} (hge : sg.names.lookup e = some .globalImplicit) (hme : X.mg e = some (.ref CS)) (hde : (e == ("__debug__" : Str)) = false)
    (hnd : Ng.Nodup) (hh : Ng[ih]? = some hv) (he : Ng[ie]? = some er) (h0 : 0 < ih) (h1 : 0 < ie) (hne : ih ≠ ie) (lh : sg.names.lookup hv = some .local) (le : sg.names.lookup er = some .local) (d1 : (hv == ("__debug__" : Str)) = false) (d2 : (hv == ("__classdict__" : Str)) = false) (d3 : (er == ("__debug__" : Str)) = false) (d4 : (er == ("__classdict__" : Str)) = false) :
    LamX.GivesTo X Ng x sg g cdg [.Assign [.Name hv p1] (.Constant .none j p2) p3, .Try [.Expr (.Call (.Name a p4) [] [] p5) p6] [.ExceptHandler (some (.Name e p7)) (some er) [.Assign [.Name hv p8] (.Name er p9) p10] p11] [] [] p12, .Return (some (.Name hv p13)) p14] a q (TTc X.K CS) := by
  intro f c' s H Q tl act hc h
  have hgl : Gl (cxOf C8.CX0 X.prog X.w X.K X.mg X.base Ng x sg g cdg X.A X.stack s H C8.E0).nox e := hge
  have lih := (List.getElem?_eq_some_iff.mp hh).1
  have lie := (List.getElem?_eq_some_iff.mp he).1
  refine ⟨_, pss_cons (X := (cxOf C8.CX0 X.prog X.w X.K X.mg X.base Ng x sg g cdg X.A X.stack s H C8.E0).nox) (ps_set (i := ih) hnd hh (.inl lh) pe_non rfl (.inr lh)) (pss_cons (ps_try_exc (X := (cxOf C8.CX0 X.prog X.w X.K X.mg X.base Ng x sg g cdg X.A X.stack s H C8.E0).nox) (c := .ref CS) (i := ie)
      (tb := fun W D σ H => ∃ Ech : XK, (∀ cls d σ' H', Ech cls d H' → W cls d σ' H') ∧ σ[0]? = some (some (.ref f)) ∧ H c' = some (LamX.CodeO c' q) ∧ tl Ech H fun _ H' => D.nx σ H')
      (ts := fun a => tAsg (tVar ie) (gName ih)) rfl rfl rfl hnd he le ⟨hgl, hde, .inl hme⟩ LamX.takes0 (fun W pn xe tk _ => ?_) (fun a pn => pss_one (ps_set (i := ih) hnd hh (.inl lh) (pe_var he (.inl le) d3 d4) rfl (.inr lh)))) (pss_one (ps_ret (pe_var hh (.inl lh) d1 d2)))), ?_⟩
  · refine ⟨fun pins s' σ H' D I h' => ?_⟩
    obtain ⟨Ech, hW, k1, k2, k3⟩ := h'
    have hp := act W pn xe Ech p4 p5 tk hW
    exact (pss_one (ps_expr (pos := p6) hp rfl)).run pins s' σ H' D I ⟨k1, k2, k3⟩
  · have hlen : (L2.start Ng [V.ref f]).length = Ng.length := by
      unfold L2.start
      rw [List.length_append, List.length_map, List.length_replicate]
      have : ([V.ref f] : List V).length = 1 := rfl
      omega
    have hs0 : (L2.start Ng [V.ref f])[0]? = some (some (V.ref f)) := rfl
    show ∃ Ech : XK, _
    refine ⟨fun cls d H' => ∃ k, cls = .ref k ∧ d = none ∧ PySem.W.exmOne X.K cls (.ref CS) = some true ∧ ∀ a, H' a = none → Q (.ref a) (upd H' a (ExcO a k)), fun cls d σ' H' hq hl => ?_, ?_, hc, ?_⟩
    · obtain ⟨k, rfl, rfl, hx, hq⟩ := hq
      have hl' : σ'.length = Ng.length := hl
      refine ⟨true, hx, fun _ => ⟨rfl, k, rfl, fun a ha => ⟨.ref a, List.getElem?_set_self (by omega), ?_⟩⟩, fun z => by cases z⟩
      refine ⟨.ref a, ?_, hq a ha⟩
      rw [List.getElem?_set_ne (Ne.symm hne), List.getElem?_set_self (by rw [List.length_set]; omega)]
    · rw [List.getElem?_set_ne (by omega)]; exact hs0
    · exact h _ fun H' hq => ⟨.non, List.getElem?_set_self (by omega), hq⟩
/-- x(lambda: e), where x tells the error that the lambda raises -/
theorem nd_caught {B : Bk} {T : List (Addr × Str)} {Z : XK} {Φ : Phi} {ee : E} {xc a : Str} {g c P CS : Addr} {k : Nat} {pg : Arguments} {bg : List Stmt} {sg : Scope} {dV kV doc pm cdv ct oc : Value} {an od : Option Addr} {osl : Array (Option Value)} {Ng : List Str}
    {params : Arguments} {body : Expr} {scope : Scope} {p lpos pos : Pos} (hg : Gl X xc) (hm : X.mg xc = some (.ref g)) (hk : PySem.W.keepIn X.K (.ref g) = true)
    (lk : X.K.lookup g = some ⟨oc, od, .func (PySem.W.fnOf xc xc pg bg sg dV kV doc pm an cdv ct), osl⟩) (hcg : PySem.W.codeIn X.K cdv xc = true) (hb : L2.Binds X.K (PySem.W.fnOf xc xc pg bg sg dV kV doc pm an cdv ct) [a] []) (Sg : FnScope Ng [a] sg) (hNg : Ng[0]? = some a) (hva : Vis sg a)
    (hG : LamX.GivesTo X Ng xc sg g cdv bg a (X.env.qual ++ "<lambda>") (TTc X.K CS))
    (TB : LamX.TabB X.base X.mg c P) (hcode : X.env.code = .ref c) (hmT : (P, X.env.qual ++ "<lambda>") ∈ T) (hu : ∀ p ∈ T, p.1 = P → p.2 = X.env.qual ++ "<lambda>") (hr : Room (k + 2) X.A) (L : LamX.LamS X.env.scope scope) (hdef : defaultsOf params X.env = ([], []))
    (hbind : ∀ (q : Str) (cl : List (Str × Addr)) (pm cv ctv : Value), bindArgs (PySem.W.kla_fn "<lambda>" q params body scope cl pm cv ctv) ⟨[], []⟩ = pure [])
    (hbody : ∀ (A : Around) (outer : List Env) (s : Shared) (H : Hp) (E : XK) (f c' : Addr), Room k (A.deeper (LamX.lamEnv X scope s.heap.objs.size f c')) → PE (LamX.lamCx X A outer s H E scope f c') body (rdE B T E Φ ee))
    (hx : ∀ C k, B.exc C = some k → PySem.W.exmOne X.K (.ref k) (.ref CS) = some true)
    (hdb : (xc == ("__debug__" : Str)) = false) (hd : (a == ("__debug__" : Str)) = false) (hcd : (a == ("__classdict__" : Str)) = false) :
    PE X (.Call (.Name xc p) [.Lambda params body scope lpos] [] pos) (rdE B T Z Φ (.caught ee)) := by
  refine ⟨fun pins s σ H Q I ⟨ex, ρ, S, sgg, st, sr, h⟩ => ?_⟩
  rw [ev] at h
  refine wpAny_Call_Name_kw (ld_glob I hg hm ?_ hdb)
  refine PySem.W.callWith_K (h₀ := X.base) I.ok.mod.kin hk ?_ (by rfl) (by rfl)
  show wpAny _ _ (spliced ((false, eval (.Lambda params body scope lpos) X.env) :: backTo pos (starEach [] X.env))) _ _ s
  refine Calls.spliced_cons (lam_make4 I TB hcode hmT hu st.tabs hdef (L.has I.ok) fun f c' pm' ctv H1 s' I1 G hf hsz hf0 hfn hfr => ?_)
  obtain ⟨st1, g1⟩ := lamG_go st G
  refine Calls.spliced_nil ⟨I1.kIn, ?_⟩
  have read : TTc X.K CS (fun E H' Q' => rdE B T E Φ ee σ H' Q') H1 Q := by
    intro R hR
    refine ⟨ex, ρ, S, sgg, st1, sr.mono g1, ?_⟩
    cases e : ev Φ ee sgg S with
    | ok v S1 =>
      rw [e] at h
      exact fun x ρ' H' g st' r => hR _ (h .non ρ' H' (g1.trans g) st' (vr_non.mpr rfl))
    | ex v S1 =>
      rw [e] at h
      intro ρ' H' C k g st' e1 e2
      refine ⟨k, rfl, rfl, hx C k e2, fun a ha => ?_⟩
      obtain ⟨st2, g2, o2⟩ := st'.fresh (o := ExcO a k) ha
      subst e1
      exact h (.ref a) ρ' _ ((g1.trans g).trans g2) st2 (vr_exc.mpr ⟨a, k, rfl, e2, upd_same, o2, rfl⟩)
    | no => rw [e] at h; exact h.elim
  have rc : codeAny (model X.prog X.w) X.A (.call (.ref g) ⟨[.ref f], []⟩) (L2.CR C8.CX0 X.stack X.prog X.w H1 s' Q C8.E0) s' := by
    refine LamX.run_ofS (N := Ng) (ps := [a]) (us := [.ref f]) (vs := [.ref f]) lk hcg Sg hr I1.env0 (hb s' [.ref f] I1.kIn rfl) (.cons rfl .nil) rfl fun hr' => ?_
    obtain ⟨t', ht', hq'⟩ := hG f c' s' H1 Q (fun E H' Q' => rdE B T E Φ ee σ H' Q') (fun W pn xe E p1 p2 tk hW => LamX.pe_act (i := 0) I1 L hf hfn hfr (hbind _ _ _ _ _) tk hW hr' (fun A outer s H hr2 => hbody A outer s H E f c' hr2) hNg hva hd hcd) G.code read
    exact ⟨t', ht'.nox, hq'⟩
  refine wpAny_call (codeAny_mono rc fun r s2 hq => ?_)
  cases r with
  | error e => exact (show False from hq).elim
  | ok fl =>
    cases fl with
    | ret u => exact I1.after hq
    | next => exact False.elim hq
    | brk => exact False.elim hq
    | cont => exact False.elim hq
end
end Sv
end

section
set_option Elab.async false
set_option linter.all false
set_option maxRecDepth 100000
set_option maxHeartbeats 2000000
/-! a text against its plain term: decided by running -/
namespace Sv
open PySem PySem.Spec PyProof.Rows L2
/-- what a global name stands for -/
inductive G where
  | fn (f : Nat) (kws : List KwF) | cls (C : Nat) (kws : List KwF) | int (i : Int) | exc (C : Nat) | caught | bi
/-- what is known of the place where a text stands -/
structure SC where
  N : List Str
  sc : Scope
  fn : Str → Bool
  gl : List (Str × G)
  flds : Nat → List Str
  lam : List (Nat × LamD)
  qual : Str
  lq : Bool
  top : Bool
def okN (x : Str) : Bool := !(x == ("__debug__" : Str)) && !(x == ("__classdict__" : Str))
def visB (sc : Scope) (x : Str) : Bool := decide (sc.names.lookup x = some .local) || decide (sc.names.lookup x = some .cell) || decide (sc.names.lookup x = some .free)
def locB (sc : Scope) (x : Str) : Bool := decide (sc.names.lookup x = some .local) || decide (sc.names.lookup x = some .cell)
def glB (sc : Scope) (x : Str) : Bool := decide (sc.names.lookup x = some .globalImplicit)
def isBi (c : SC) (x : Str) : Bool := glB c.sc x && (match c.gl.lookup x with
  | some .bi => true
  | _ => false)
def noStr : Expr → Bool
  | .Starred _ _ => false
  | _ => true
def noSet : Expr → Bool
  | .Set _ _ _ => false
  | _ => true
def noSlc : Expr → Bool
  | .Slice _ _ _ _ => false
  | _ => true
def noCall : Expr → Bool
  | .Call _ _ _ _ => false
  | _ => true
def superB : Expr → Bool
  | .Call (.Name id _) [] [] _ => id == "super"
  | _ => false
def noAtt : Expr → Bool
  | .Attribute _ _ _ => false
  | _ => true
def noSD : Expr → Bool
  | .SetComp _ _ _ _ => false
  | .DictComp _ _ _ _ _ => false
  | _ => true
def noComp : Expr → Bool
  | .SetComp _ _ _ _ => false
  | .DictComp _ _ _ _ _ => false
  | .ListComp _ _ _ _ => false
  | _ => true
/-- truth by the value itself -/
def byVal : Expr → Bool
  | .UnaryOp .Not _ _ => false
  | .BoolOp _ _ _ => false
  | .IfExp _ _ _ _ => false
  | .Compare _ _ _ _ => false
  | _ => true
def ownOf (N : List Str) (own : List Nat) : List (Str × Nat) := own.filterMap fun i => (N[i]?).map fun x => (x, i)
def SC.blk (c : SC) (scope : Scope) : SC := { c with sc := relS scope c.sc, fn := fun x => scope.names.lookup x == some .cell }
def SC.inLam (c : SC) (scope : Scope) : SC := { c with sc := scope, fn := fun _ => false, lq := false, top := false }
def fAtB (c : SC) (f : Str) (ps : List (Nat × Nat)) : Bool := ps.all fun p => decide ((c.flds p.1)[p.2]? = some f)
/-- whether a comprehension's value is put straight into its name -/
def swB (value t : Expr) (sc : Scope) : Bool := match value with
  | .ListComp _ _ s pos => (match t with
    | .Name y p => decide (sc.names.lookup y = some .local) && (p.line == pos.line) && !(s.names.any fun (n, k) => n == y && (k == .local || k == .cell))
    | _ => false)
  | _ => false
def noArgs : Arguments → Bool
  | ⟨[], [], none, [], [], none, []⟩ => true
  | _ => false
def eqArg (a b : Arg) : Bool := decide (a.arg = b.arg) && a.annotation.isNone && b.annotation.isNone && decide (a.pos = b.pos)
def eqAll {α : Type} (f : α → α → Bool) : List α → List α → Bool
  | [], [] => true
  | a :: r, b :: s => f a b && eqAll f r s
  | _, _ => false
/-- the same plain parameters -/
def eqArgs : Arguments → Arguments → Bool
  | ⟨[], as, none, [], [], none, []⟩, ⟨[], bs, none, [], [], none, []⟩ => eqAll eqArg as bs
  | _, _ => false
/-- the same text (of the kinds that lambdas of ours have) -/
def eqE : Nat → Expr → Expr → Bool
  | 0, _, _ => false
  | n + 1, a, b => match a, b with
    | .Name x p, .Name y q => decide (x = y) && decide (p = q)
    | .Constant x j p, .Constant y k q => decide (x = y) && decide (j = k) && decide (p = q)
    | .Subscript x i p, .Subscript y k q => eqE n x y && eqE n i k && decide (p = q)
    | .Attribute x i p, .Attribute y k q => eqE n x y && decide (i = k) && decide (p = q)
    | .Call f as [] p, .Call g bs [] q => eqE n f g && eqAll (eqE n) as bs && decide (p = q)
    | .Tuple as i p, .Tuple bs j q => eqAll (eqE n) as bs && decide (i = j) && decide (p = q)
    | .List as p, .List bs q => eqAll (eqE n) as bs && decide (p = q)
    | .BoolOp o as p, .BoolOp u bs q => decide (o = u) && eqAll (eqE n) as bs && decide (p = q)
    | .Compare x os as p, .Compare y us bs q => eqE n x y && decide (os = us) && eqAll (eqE n) as bs && decide (p = q)
    | .UnaryOp o x p, .UnaryOp u y q => decide (o = u) && eqE n x y && decide (p = q)
    | .BinOp x o y p, .BinOp x' o' y' q => eqE n x x' && decide (o = o') && eqE n y y' && decide (p = q)
    | .IfExp x y z p, .IfExp x' y' z' q => eqE n x x' && eqE n y y' && eqE n z z' && decide (p = q)
    | _, _ => false
theorem eqAll_eq {α : Type} {f : α → α → Bool} (hf : ∀ a b, f a b = true → a = b) : ∀ {l m : List α}, eqAll f l m = true → l = m
  | [], [], _ => rfl
  | [], _ :: _, h => by cases h
  | _ :: _, [], h => by cases h
  | a :: r, b :: s, h => by
    unfold eqAll at h
    rw [Bool.and_eq_true] at h
    rw [hf _ _ h.1, eqAll_eq hf h.2]
theorem eqE_eq : ∀ {n : Nat} {a b : Expr}, eqE n a b = true → a = b
  | 0, _, _, h => by cases h
  | n + 1, a, b, h => by
    have ih : ∀ a b, eqE n a b = true → a = b := fun a b => eqE_eq
    unfold eqE at h
    split at h <;> (try simp only [Bool.and_eq_true, decide_eq_true_eq] at h)
    · obtain ⟨rfl, rfl⟩ := h; rfl
    · obtain ⟨⟨rfl, rfl⟩, rfl⟩ := h; rfl
    · obtain ⟨⟨h1, h2⟩, rfl⟩ := h; rw [ih _ _ h1, ih _ _ h2]
    · obtain ⟨⟨h1, rfl⟩, rfl⟩ := h; rw [ih _ _ h1]
    · obtain ⟨⟨h1, h2⟩, rfl⟩ := h; rw [ih _ _ h1, eqAll_eq ih h2]
    · obtain ⟨⟨h1, rfl⟩, rfl⟩ := h; rw [eqAll_eq ih h1]
    · obtain ⟨h1, rfl⟩ := h; rw [eqAll_eq ih h1]
    · obtain ⟨⟨rfl, h1⟩, rfl⟩ := h; rw [eqAll_eq ih h1]
    · obtain ⟨⟨⟨h0, rfl⟩, h1⟩, rfl⟩ := h; rw [ih _ _ h0, eqAll_eq ih h1]
    · obtain ⟨⟨rfl, h1⟩, rfl⟩ := h; rw [ih _ _ h1]
    · obtain ⟨⟨⟨h0, rfl⟩, h1⟩, rfl⟩ := h; rw [ih _ _ h0, ih _ _ h1]
    · obtain ⟨⟨⟨h0, h2⟩, h1⟩, rfl⟩ := h; rw [ih _ _ h0, ih _ _ h1, ih _ _ h2]
    · cases h
theorem eqArgs_eq {a b : Arguments} (h : eqArgs a b = true) : a = b := by
  unfold eqArgs at h
  split at h
  · rw [eqAll_eq (fun a b h => ?_) h]
    unfold eqArg at h
    simp only [Bool.and_eq_true, decide_eq_true_eq, Option.isNone_iff_eq_none] at h
    obtain ⟨⟨⟨h1, h2⟩, h3⟩, h4⟩ := h
    cases a; cases b
    simp only at h1 h2 h3 h4
    subst h1 h2 h3 h4
    rfl
  · cases h
def plainDef : Arguments → Bool
  | ⟨_, _, _, _, [], _, []⟩ => true
  | _ => false
def keyB : Option Expr → DK → Bool
  | some (.Constant (.int k) _ _), .i j => decide (k = j)
  | some (.Constant (.str z) _ _), .s k => decide (z = Str.ofString k)
  | _, _ => false
def tyB (c : SC) (t : Ty) (e : Expr) : Bool := match e with
  | .Name x _ => glB c.sc x && okN x && (match t with
    | .int => decide (x = "int") && isBi c x
    | .bool => decide (x = "bool") && isBi c x
    | .str => decide (x = "str") && isBi c x
    | .list => decide (x = "list") && isBi c x
    | .tuple => decide (x = "tuple") && isBi c x
    | .dict => decide (x = "dict") && isBi c x
    | .cls C => (match c.gl.lookup x with
      | some (.cls D _) => decide (D = C)
      | some (.exc D) => decide (D = C)
      | _ => false))
  | _ => false
def tysB (c : SC) : List Ty → List Expr → Bool
  | [], [] => true
  | t :: ts, e :: es => tyB c t e && tysB c ts es
  | _, _ => false
def kwsOf (kw : List Keyword) : List (Option Str) := kw.map (·.arg)
mutual
def ckE : Nat → SC → Expr → E → Bool
  | 0, _, _, _ => false
  | n + 1, c, e, t => match t with
    | .kn => (match e with
      | .Constant .none _ _ => true
      | _ => false)
    | .kb b => (match e with
      | .Constant (.bool k) _ _ => decide (k = b)
      | _ => false)
    | .ki i => (match e with
      | .Constant (.int k) _ _ => decide (k = i)
      | _ => false)
    | .ks s => (match e with
      | .Constant (.str z) _ _ => decide (z = Str.ofString s)
      | _ => false)
    | .x i => (match e with
      | .Name x _ => decide (c.N[i]? = some x) && visB c.sc x && okN x
      | _ => false)
    | .gi _ i => (match e with
      | .Name x _ => glB c.sc x && okN x && (match c.gl.lookup x with
        | some (.int j) => decide (j = i)
        | _ => false)
      | _ => false)
    | .bin o _ a b => (match e with
      | .BinOp pa op pb _ => decide (op = boOp o) && ckE n c pa a && ckE n c pb b
      | _ => false)
    | .neg a => (match e with
      | .UnaryOp .USub pa _ => ckE n c pa a
      | _ => false)
    | .cmp o a b => (match e with
      | .Compare pa [op] [pb] _ => decide (op = coOp o) && noSet pb && ckE n c pa a && ckE n c pb b
      | _ => false)
    | .chn o p a b d => (match e with
      | .Compare pa [op, op2] [pb, pd] _ => decide (op = coOp o) && decide (op2 = coOp p) && noSet pd && ckE n c pa a && ckE n c pb b && ckE n c pd d
      | _ => false)
    | .isn neg a => (match e with
      | .Compare pa [op] [.Constant .none _ _] _ => decide (op = isOp neg) && ckE n c pa a
      | _ => false)
    | .isb neg b a => (match e with
      | .Compare pa [op] [.Constant (.bool k) _ _] _ => decide (op = isOp neg) && decide (k = b) && ckE n c pa a
      | _ => false)
    | .isi a ts => (match e with
      | .Call (.Name x _) [pa, te] [] _ => decide (x = "isinstance") && isBi c x && noStr pa && ckE n c pa a && (match te with
        | .Tuple es _ _ => !ts.isEmpty && decide (es.length ≤ 1000) && tysB c ts es
        | te => (match ts with
          | [t] => tyB c t te
          | _ => false))
      | _ => false)
    | .and a b => (match e with
      | .BoolOp .And (pa :: pb :: r) _ => ckE n c pa a && ckB n c true pb r b
      | _ => false)
    | .or a b => (match e with
      | .BoolOp .Or (pa :: pb :: r) _ => ckE n c pa a && ckB n c false pb r b
      | _ => false)
    | .not a => (match e with
      | .UnaryOp .Not pa _ => ckE n c pa a
      | _ => false)
    | .ite d a b => (match e with
      | .IfExp pd pa pb _ => ckT n c pd d && ckE n c pa a && ckE n c pb b
      | _ => false)
    | .tup es => (match e with
      | .Tuple ps _ _ => ckEs n c ps es
      | _ => false)
    | .lst _ es => (match e with
      | .List ps _ => ckEs n c ps es
      | _ => false)
    | .dct ks es => (match e with
      | .Dict keys vals _ => decide (keys.length ≤ 15) && ckD n c keys vals ks es
      | _ => false)
    | .idx a i => (match e with
      | .Subscript pa pi _ => noSlc pi && ckE n c pa a && ckE n c pi i
      | _ => false)
    | .slc _ a lo hi => (match e with
      | .Subscript pa (.Slice l h none _) _ => ckE n c pa a && ckO n c l lo && ckO n c h hi
      | _ => false)
    | .dgs a k => (match e with
      | .Subscript pa (.Constant (.str z) _ _) _ => decide (z = Str.ofString k) && ckE n c pa a
      | _ => false)
    | .att a ps => (match e with
      | .Attribute pa f _ => !superB pa && fAtB c f ps && ckE n c pa a
      | _ => false)
    | .call f es => (match e with
      | .Call (.Name x _) (pa :: args) [] _ => glB c.sc x && noStr pa && args.all noStr && ckEs n c (pa :: args) es && (match c.gl.lookup x with
        | some (.fn g _) => decide (g = f)
        | some (.cls g _) => decide (g = f)
        | _ => false)
      | _ => false)
    | .callk f perm es => (match e with
      | .Call (.Name x _) [] kw _ => glB c.sc x && noStar es && ckK n c kw es && (match c.gl.lookup x with
        | some (.fn g kws) => decide (g = f) && kws.any fun q => decide (q.n = 0) && decide (q.perm = perm) && decide (q.ks.length = esLen es) && decide (q.ks.map some = kwsOf kw)
        | some (.cls g kws) => decide (g = f) && kws.any fun q => decide (q.n = 0) && decide (q.perm = perm) && decide (q.ks.length = esLen es) && decide (q.ks.map some = kwsOf kw)
        | _ => false)
      | _ => false)
    | .bi b a => (match e with
      | .Call (.Name x _) [pa] [] _ => decide (x = Str.ofString (biX b)) && isBi c x && noStr pa && ckE n c pa a
      | _ => false)
    | .bl b _ a => (match e with
      | .Call (.Name x _) [pa] [] _ => decide (x = Str.ofString (blX b)) && isBi c x && noStr pa && ckE n c pa a
      | _ => false)
    | .lrg _ a => (match e with
      | .Call (.Name x _) [.Call (.Name y _) [pa] [] _] [] _ => decide (x = "list") && isBi c x && decide (y = "range") && isBi c y && noStr pa && ckE n c pa a
      | _ => false)
    | .mm mx a b => (match e with
      | .Call (.Name x _) [pa, pb] [] _ => decide (x = Str.ofString (mmX mx)) && isBi c x && noStr pa && noStr pb && ckE n c pa a && ckE n c pb b
      | _ => false)
    | .popi a i => (match e with
      | .Call (.Attribute pa nm apos) [pb] [] pos => decide (nm = "pop") && (apos.endLine == pos.line) && !superB pa && noStr pb && ckE n c pa a && ckE n c pb i
      | _ => false)
    | .pop a => (match e with
      | .Call (.Attribute pa nm apos) [] [] pos => decide (nm = "pop") && (apos.endLine == pos.line) && !superB pa && ckE n c pa a
      | _ => false)
    | .index a b => (match e with
      | .Call (.Attribute pa nm apos) [pb] [] pos => decide (nm = "index") && (apos.endLine == pos.line) && !superB pa && noStr pb && ckE n c pa a && ckE n c pb b
      | _ => false)
    | .lc _ own tg it d el => (match e with
      | .ListComp elt [⟨ptg, iter, ifs, a⟩] scope _ => decide (a = 0) && decide ((ownOf c.N own).map (·.2) = own) && blkC c.N c.sc scope (ownOf c.N own) && (tgN tg).all (fun i => decide (i ∈ own)) && noSet iter &&
        ckIt n c ptg iter it && ckTg n (c.blk scope) ptg tg && ckC n (c.blk scope) ifs d && ckE n (c.blk scope) elt el
      | _ => false)
    | .clo k => (match e with
      | .Lambda params body scope _ => c.lq && plainDef params && scope.names.all (fun y => !decide (y.2 = .free)) && (match c.lam.lookup k with
        | some d => decide (d.qual = c.qual ++ "<lambda>") && eqArgs d.params params && eqE n d.body body && decide (d.scope = scope)
        | none => false)
      | _ => false)
    | .callv f es => (match e with
      | .Call pf (pa :: args) [] _ => noAtt pf && noStr pa && args.all noStr && ckE n c pf f && ckEs n c (pa :: args) es
      | _ => false)
    | .caught a => (match e with
      | .Call (.Name x _) [.Lambda params body scope _] [] _ => glB c.sc x && c.top && c.lq && noArgs params && LamX.lamSB c.sc scope && ckE n (c.inLam scope) body a && (match c.gl.lookup x with
        | some .caught => true
        | _ => false)
      | _ => false)
def ckB : Nat → SC → Bool → Expr → List Expr → E → Bool
  | 0, _, _, _, _, _ => false
  | n + 1, c, _, p, [], t => ckE n c p t
  | n + 1, c, true, p, q :: r, t => (match t with
    | .and a b => ckE n c p a && ckB n c true q r b
    | _ => false)
  | n + 1, c, false, p, q :: r, t => (match t with
    | .or a b => ckE n c p a && ckB n c false q r b
    | _ => false)
def ckEs : Nat → SC → List Expr → Es → Bool
  | 0, _, _, _ => false
  | n + 1, c, ps, t => match t with
    | .nil => ps.isEmpty
    | .cons a r => (match ps with
      | p :: ps => noStr p && ckE n c p a && ckEs n c ps r
      | _ => false)
    | .star a r => (match ps with
      | .Starred p _ :: ps => ckE n c p a && ckEs n c ps r
      | _ => false)
def ckK : Nat → SC → List Keyword → Es → Bool
  | 0, _, _, _ => false
  | n + 1, c, ps, t => match t with
    | .nil => ps.isEmpty
    | .cons a r => (match ps with
      | p :: ps => ckE n c p.value a && ckK n c ps r
      | _ => false)
    | .star _ _ => false
def ckD : Nat → SC → List (Option Expr) → List Expr → List DK → Es → Bool
  | 0, _, _, _, _, _ => false
  | n + 1, c, keys, vals, ks, t => match keys, vals, ks, t with
    | [], [], [], .nil => true
    | ke :: keys, v :: vals, k :: ks, .cons a r => keyB ke k && ckE n c v a && ckD n c keys vals ks r
    | _, _, _, _ => false
def ckO : Nat → SC → Option Expr → Eo → Bool
  | 0, _, _, _ => false
  | n + 1, c, e, t => match t with
    | .none => e.isNone
    | .some a => (match e with
      | some p => ckE n c p a
      | none => false)
def ckT : Nat → SC → Expr → Tst → Bool
  | 0, _, _, _ => false
  | n + 1, c, e, t => match t with
    | .v (.cmp o a b) => (match e with
      | .Compare pa [op] [pb] _ => decide (op = coOp o) && noSet pb && ckE n c pa a && ckE n c pb b
      | _ => false)
    | .v (.chn o p a b d) => (match e with
      | .Compare pa [op, op2] [pb, pd] _ => decide (op = coOp o) && decide (op2 = coOp p) && noSet pd && ckE n c pa a && ckE n c pb b && ckE n c pd d
      | _ => false)
    | .v (.isn neg a) => (match e with
      | .Compare pa [op] [.Constant .none _ _] _ => decide (op = isOp neg) && ckE n c pa a
      | _ => false)
    | .v (.isb neg b a) => (match e with
      | .Compare pa [op] [.Constant (.bool k) _ _] _ => decide (op = isOp neg) && decide (k = b) && ckE n c pa a
      | _ => false)
    | .v a => byVal e && ckE n c e a
    | .and a b => (match e with
      | .BoolOp .And (pa :: pb :: r) _ => ckT n c pa a && ckW n c true pb r b
      | _ => false)
    | .or a b => (match e with
      | .BoolOp .Or (pa :: pb :: r) _ => ckT n c pa a && ckW n c false pb r b
      | _ => false)
    | .not a => (match e with
      | .UnaryOp .Not pa _ => ckT n c pa a
      | _ => false)
def ckW : Nat → SC → Bool → Expr → List Expr → Tst → Bool
  | 0, _, _, _, _, _ => false
  | n + 1, c, _, p, [], t => ckT n c p t
  | n + 1, c, true, p, q :: r, t => (match t with
    | .and a b => ckT n c p a && ckW n c true q r b
    | _ => false)
  | n + 1, c, false, p, q :: r, t => (match t with
    | .or a b => ckT n c p a && ckW n c false q r b
    | _ => false)
def ckC : Nat → SC → List Expr → Ct → Bool
  | 0, _, _, _ => false
  | n + 1, c, ps, t => match t with
    | .none => ps.isEmpty
    | .some a => (match ps with
      | [p] => ckT n c p a
      | _ => false)
def ckIt : Nat → SC → Expr → Expr → It → Bool
  | 0, _, _, _, _ => false
  | n + 1, c, tg, e, t => match t with
    | .e a => ckE n c e a
    | .range1 a => (match e with
      | .Call (.Name x _) [pa] [] _ => decide (x = "range") && isBi c x && noStr pa && ckE n c pa a
      | _ => false)
    | .range2 a b => (match e with
      | .Call (.Name x _) [pa, pb] [] _ => decide (x = "range") && isBi c x && noStr pa && noStr pb && ckE n c pa a && ckE n c pb b
      | _ => false)
    | .zip a b => (match e, tg with
      | .Call (.Name x _) [pa, pb] [] _, .Tuple _ _ _ => decide (x = "zip") && isBi c x && noStr pa && noStr pb && ckE n c pa a && ckE n c pb b
      | _, _ => false)
    | .enum a => (match e, tg with
      | .Call (.Name x _) [pa] [] _, .Tuple _ _ _ => decide (x = "enumerate") && isBi c x && noStr pa && ckE n c pa a
      | _, _ => false)
def ckTg : Nat → SC → Expr → Tg → Bool
  | 0, _, _, _ => false
  | n + 1, c, e, t => match t with
    | .x i => (match e with
      | .Name x _ => decide (c.N[i]? = some x) && locB c.sc x && (c.fn x || decide (c.sc.names.lookup x = some .local))
      | _ => false)
    | .sub o i => (match e with
      | .Subscript pa pi _ => noSlc pi && ckE n c pa o && ckE n c pi i
      | _ => false)
    | .tup l => (match e with
      | .Tuple ps _ _ => ps.all noStr && decide (tgsLen l = ps.length) && ckTgs n c ps l
      | _ => false)
def ckTgs : Nat → SC → List Expr → Tgs → Bool
  | 0, _, _, _ => false
  | n + 1, c, ps, t => match t with
    | .nil => ps.isEmpty
    | .cons a r => (match ps with
      | p :: ps => noStr p && ckTg n c p a && ckTgs n c ps r
      | _ => false)
end
end Sv
end

section
set_option Elab.async false
set_option linter.all false
set_option maxRecDepth 100000
set_option maxHeartbeats 4000000
namespace Sv
open PySem PySem.Spec PyProof.Rows L2
/-- the def that catches, whatever it is called with -/
structure CaughtOk (P : Program) (w : World) (K : PySem.W.Frag) (mg : Str → Option Value) (base : Heap) (B : Bk) (xc : Str) : Prop where
  ex : ∃ (a : Str) (g CS : Addr) (pg : Arguments) (bg : List Stmt) (sg : Scope) (dV kV doc pm cdv oc : Value) (an od : Option Addr) (osl : Array (Option Value)) (ct : Value) (Ng : List Str),
    mg xc = some (.ref g) ∧ PySem.W.keepIn K (.ref g) = true ∧ K.lookup g = some ⟨oc, od, .func (PySem.W.fnOf xc xc pg bg sg dV kV doc pm an cdv ct), osl⟩ ∧ PySem.W.codeIn K cdv xc = true ∧ L2.Binds K (PySem.W.fnOf xc xc pg bg sg dV kV doc pm an cdv ct) [a] [] ∧ FnScope Ng [a] sg ∧ Ng[0]? = some a ∧ Vis sg a ∧
    (∀ (X : Cx) (q : Str), X.prog = P → X.w = w → X.K = K → X.mg = mg → X.base = base → LamX.GivesTo X Ng xc sg g cdv bg a q (TTc K CS)) ∧ (∀ C k, B.exc C = some k → PySem.W.exmOne K (.ref k) (.ref CS) = some true) ∧ (a == ("__debug__" : Str)) = false ∧ (a == ("__classdict__" : Str)) = false
  nd : (xc == ("__debug__" : Str)) = false
/-- what a global name's meaning is -/
def GM (P : Program) (w : World) (K : PySem.W.Frag) (mg : Str → Option Value) (base : Heap) (B : Bk) (T : List (Addr × Str)) (Φ : Phi) (k : Nat) (x : Str) : G → Prop
  | .fn f kws => Callee P w K mg base B T Φ k x f kws
  | .cls C kws => Maker P w K mg base B T Φ k x C kws
  | .int i => ∃ t, mg x = some (.int i t)
  | .exc C => ∃ a, mg x = some (.ref a) ∧ B.exc C = some a ∧ B.cls C = none
  | .caught => CaughtOk P w K mg base B x
  | .bi => mg x = none
structure SOk (B : Bk) (T : List (Addr × Str)) (Φ : Phi) (k : Nat) (c : SC) (X : Cx) (Z : XK) : Prop where
  si : Sit X B Z
  ca : ClsAll B
  eq : EqAll X.prog X.w X.K X.mg X.base B T Φ k
  la : LamAll X.prog X.w X.K X.mg X.base B T Φ k
  room : Room (k + 1) X.A
  N : X.N = c.N
  sc : X.env.scope = c.sc
  kind : c.sc.kind = .function
  fn : ∀ x, X.fn x = c.fn x
  flds : B.flds = c.flds
  lam : ∀ j d, c.lam.lookup j = some d → B.lam j = some d
  qual : c.lq = true → X.env.qual = c.qual
  gl : ∀ x g, c.gl.lookup x = some g → GM X.prog X.w X.K X.mg X.base B T Φ k x g
  lq : c.lq = true → ∃ cc P, LamX.TabB X.base X.mg cc P ∧ X.env.code = .ref cc ∧ (P, c.qual ++ "<lambda>") ∈ T ∧ ∀ p ∈ T, p.1 = P → p.2 = c.qual ++ "<lambda>"
  top : c.top = true → Room (k + 3) X.A
section
variable {X : Cx} {B : Bk} {T : List (Addr × Str)} {Z : XK} {Φ : Phi} {k n : Nat} {c : SC}
theorem star1 {pa : Expr} {es : List Expr} {env : Env} (h : noStr pa = true) : starEach (pa :: es) env = (false, eval pa env) :: starEach es env := by
  cases pa <;> first | rfl | cases h | (rw [starEach]; intros; simp at *)
theorem stars {pos : Pos} {env : Env} : ∀ {es : List Expr}, es.all noStr = true → (backTo pos (starEach es env)).any (·.1) = false
  | [], _ => rfl
  | e :: es, h => by
    rw [List.all_cons, Bool.and_eq_true] at h
    rw [star1 h.1]
    have := stars (pos := pos) (env := env) h.2
    unfold backTo at this ⊢
    simpa using this
theorem base1 {o : Expr} {f : Str} {env : Env} {w : Sem Value} (h : superB o = false) : attributeBase o f env w = w := by
  unfold attributeBase
  split
  · rename_i id p pos
    have hid : (id != "super") = true := by
      have h' : (id == "super") = false := h
      unfold bne
      rw [h']; rfl
    simp [hid]
  · rfl
theorem ix1 {i : Expr} (h : noSlc i = true) : PlainIx i := fun o v => by cases i <;> first | rfl | cases h
theorem marks1 {op : CmpOp} {e : Expr} (h : noSet e = true) : behindInMarks op e = false := by cases e <;> first | rfl | cases h
theorem fold1 {e : Expr} {env : Env} (h : noSet e = true) : ∀ x, foldedSetIterable e env x = pure x := fun x => by cases e <;> first | rfl | cases h
theorem byVal1 {e : Expr} {env : Env} (h : byVal e = true) : ∀ whole, isTrue e env whole = (do let v ← whole; standAt e.pos; holding [v] (truthy v)) := fun whole => by
  cases e with
  | UnaryOp op x p => cases op <;> first | exact Bool.noConfusion h | (rw [PySem.isTrue] <;> (intros; simp at *))
  | _ => first | exact Bool.noConfusion h | (rw [PySem.isTrue] <;> (intros; simp at *))
namespace SOk
variable (ok : SOk B T Φ k c X Z)
include ok
theorem gl1 {x : Str} (h : glB c.sc x = true) : Gl X x := by
  show X.env.scope.names.lookup x = _
  rw [ok.sc]
  exact of_decide_eq_true h
theorem bi1 {x : Str} (h : isBi c x = true) : Gl X x ∧ X.mg x = none := by
  unfold isBi at h
  rw [Bool.and_eq_true] at h
  refine ⟨ok.gl1 h.1, ?_⟩
  have h2 := h.2
  split at h2
  · rename_i e; exact ok.gl _ _ e
  · cases h2
theorem nx {i : Nat} {x : Str} (h : c.N[i]? = some x) : X.N[i]? = some x := by rw [ok.N]; exact h
theorem vis {x : Str} (h : visB c.sc x = true) : Vis X.env.scope x := by
  unfold visB at h
  simp only [Bool.or_eq_true, decide_eq_true_eq] at h
  unfold Vis
  rw [ok.sc]
  rcases h with (h | h) | h
  · exact .inl h
  · exact .inr (.inl h)
  · exact .inr (.inr h)
theorem loc {x : Str} (h : locB c.sc x = true) : L2.Loc X.env.scope x := by
  unfold locB at h
  simp only [Bool.or_eq_true, decide_eq_true_eq] at h
  unfold L2.Loc
  rw [ok.sc]
  exact h
theorem op {o : Co} : OpR X (compareOp (coOp o)) (rCmp2 B T Z Φ o) := cmp2_ok ok.si ok.ca ok.eq ok.room
theorem r0 : Room k X.A := ok.room.mono (by omega)
theorem blk {scope : Scope} {s : Shared} {H : Hp} {C : Addr} {cl : List (Str × Addr)} {fp : List Addr} (hk : scope.kind = .function) : SOk B T Φ k (c.blk scope) (X.blk s H scope (compEnvC scope cl C X.env) fp) Z0 where
  si := ⟨ok.si.K, ok.si.calm, ok.si.units, ok.si.nd, LamX.takes0⟩
  ca := ok.ca
  eq := ok.eq
  la := ok.la
  room := ok.room
  N := ok.N
  sc := by show relS scope X.env.scope = relS scope c.sc; rw [ok.sc]
  kind := hk
  fn := fun x => rfl
  flds := ok.flds
  lam := ok.lam
  qual := ok.qual
  gl := ok.gl
  lq := fun h => ok.lq h
  top := fun h => ok.top h
theorem inLam {A : Around} {outer : List Env} {s : Shared} {H : Hp} {E : XK} {scope : Scope} {f c' : Addr} (hk : scope.kind = .function) (hr : Room (k + 1) (A.deeper (LamX.lamEnv X scope s.heap.objs.size f c'))) : SOk B T Φ k (c.inLam scope) (LamX.lamCx X A outer s H E scope f c') E where
  si := ⟨ok.si.K, rfl, by have := hr.un; show (A.deeper (LamX.lamEnv X scope s.heap.objs.size f c')).units + 65 < _; omega, ok.si.nd, L2.takes_of rfl rfl rfl rfl⟩
  ca := ok.ca
  eq := ok.eq
  la := ok.la
  room := hr
  N := ok.N
  sc := rfl
  kind := hk
  fn := fun x => rfl
  flds := ok.flds
  lam := ok.lam
  qual := fun h => absurd (show false = true from h) Bool.false_ne_true
  gl := ok.gl
  lq := fun h => absurd (show false = true from h) Bool.false_ne_true
  top := fun h => absurd (show false = true from h) Bool.false_ne_true
end SOk
end
end Sv
end

section
set_option Elab.async false
set_option linter.all false
set_option maxRecDepth 100000
set_option maxHeartbeats 4000000
namespace Sv
open PySem PySem.Spec PyProof.Rows L2
def opOf : Bool → PySem.BoolOp
  | true => .And
  | false => .Or
/-- what was checked is so, up to the depth n -/
structure Snd (B : Bk) (T : List (Addr × Str)) (Φ : Phi) (k n : Nat) : Prop where
  E : ∀ {c X Z e t}, SOk B T Φ k c X Z → ckE n c e t = true → PE X e (rdE B T Z Φ t)
  Bo : ∀ {c X Z b p r t} (pos : Pos), SOk B T Φ k c X Z → ckB n c b p r t = true → PE X (.BoolOp (opOf b) (p :: r) pos) (rdE B T Z Φ t)
  Es : ∀ {c X Z e t}, SOk B T Φ k c X Z → ckEs n c e t = true → PA X e (rdEs B T Z Φ t)
  K : ∀ {c X Z e t}, SOk B T Φ k c X Z → ckK n c e t = true → PK X e (rdEs B T Z Φ t)
  D : ∀ {c X Z keys vals ks t} (pos : Pos), SOk B T Φ k c X Z → ckD n c keys vals ks t = true → PPd X B T Z Φ pos keys vals ks t
  O : ∀ {c X Z e t}, SOk B T Φ k c X Z → ckO n c e t = true → PO X e (rdO B T Z Φ t)
  T' : ∀ {c X Z e t}, SOk B T Φ k c X Z → ckT n c e t = true → PT X e (rdT B T Z Φ t)
  W : ∀ {c X Z b p r t} (pos : Pos), SOk B T Φ k c X Z → ckW n c b p r t = true → PW X (.BoolOp (opOf b) (p :: r) pos) (rdT B T Z Φ t)
  C : ∀ {c X Z e t}, SOk B T Φ k c X Z → ckC n c e t = true → PTs X e (rdC B T Z Φ t)
  It : ∀ {c X Z tg e t}, SOk B T Φ k c X Z → noSet e = true → ckIt n c tg e t = true → PI X tg e (rdI B T Z Φ t)
  Tg : ∀ {c X Z e t}, SOk B T Φ k c X Z → ckTg n c e t = true → PG X e (rdG B T Φ t)
  Tgs : ∀ {c X Z e t}, SOk B T Φ k c X Z → ckTgs n c e t = true → PGs X e (rdGs B T Φ t)
section
variable {X : Cx} {B : Bk} {T : List (Addr × Str)} {Z : XK} {Φ : Phi} {k n : Nat} {c : SC}
theorem snd0 : Snd B T Φ k 0 := by
  constructor
  all_goals (intros; rename_i h; cases h)
theorem okN1 {x : Str} (h : okN x = true) : (x == ("__debug__" : Str)) = false ∧ (x == ("__classdict__" : Str)) = false := by
  unfold okN at h
  simpa using h
theorem tyB_pe (ok : SOk B T Φ k c X Z) {t : Ty} {e : Expr} (h : tyB c t e = true) : ∃ cv, tyV2 B t = some cv ∧ PE X e (tC cv.1) := by
  unfold tyB at h
  split at h
  rotate_left
  · cases h
  rename_i x p
  simp only [Bool.and_eq_true] at h
  obtain ⟨⟨hg, hn⟩, h⟩ := h
  have hd := (okN1 hn).1
  have bi : ∀ {s : String} {z : String}, tyV2 B t = some (.ty z, .type z) → bootBuiltins (Str.ofString s) = some (.type z) → Str.ofString s ≠ "__name__" → (decide (x = Str.ofString s) && isBi c x) = true → ∃ cv, tyV2 B t = some cv ∧ PE X (.Name x p) (tC cv.1) := fun {s z} e1 e2 e3 h => by
    simp only [Bool.and_eq_true, decide_eq_true_eq] at h
    obtain ⟨rfl, hb⟩ := h
    obtain ⟨q1, q2⟩ := ok.bi1 hb
    exact ⟨_, e1, pe_bltn q1 q2 e2 rfl e3 hd⟩
  cases t with
  | int => exact bi (s := "int") rfl (by decide +kernel) (by decide +kernel) h
  | bool => exact bi (s := "bool") rfl (by decide +kernel) (by decide +kernel) h
  | str => exact bi (s := "str") rfl (by decide +kernel) (by decide +kernel) h
  | list => exact bi (s := "list") rfl (by decide +kernel) (by decide +kernel) h
  | tuple => exact bi (s := "tuple") rfl (by decide +kernel) (by decide +kernel) h
  | dict => exact bi (s := "dict") rfl (by decide +kernel) (by decide +kernel) h
  | cls C =>
    dsimp only at h
    split at h
    · rename_i e
      have hC := of_decide_eq_true h
      subst hC
      obtain ⟨⟨a, _, _, _, _, _, _, hm, hcls, _⟩, _⟩ := ok.gl _ _ e
      exact ⟨(.ref a, .ref a), by simp only [tyV2, hcls], pe_glob (ok.gl1 hg) hm rfl hd⟩
    · rename_i e
      have hC := of_decide_eq_true h
      subst hC
      obtain ⟨a, hm, hexc, hno⟩ := ok.gl _ _ e
      exact ⟨(.ref a, .ref a), by simp only [tyV2, hno, hexc]; rfl, pe_glob (ok.gl1 hg) hm rfl hd⟩
    · cases h
theorem noStr_name {e : Expr} {t : Ty} (h : tyB c t e = true) : noStr e = true := by
  unfold tyB at h
  split at h
  · rfl
  · cases h
theorem tysB_pa (ok : SOk B T Φ k c X Z) : ∀ {ts : List Ty} {es : List Expr}, tysB c ts es = true → ∃ cs, tys B ts = some cs ∧ cs.length = es.length ∧ PA X es (fun σ H Q => Q (cs.map (·.1)) H)
  | [], [], _ => ⟨[], rfl, rfl, pa_nil⟩
  | [], _ :: _, h => by cases h
  | _ :: _, [], h => by cases h
  | t :: ts, e :: es, h => by
    unfold tysB at h
    rw [Bool.and_eq_true] at h
    obtain ⟨cv, h1, h2⟩ := tyB_pe ok h.1
    obtain ⟨cs, h3, h4, h5⟩ := tysB_pa ok h.2
    refine ⟨cv :: cs, by unfold tys; rw [h1, h3], by simp [h4], (pa_cons h2 h5 (star1 (noStr_name h.1))).of fun σ H Q q => q⟩
end
end Sv
end

section
set_option Elab.async false
set_option linter.all false
set_option maxRecDepth 100000
set_option maxHeartbeats 4000000
namespace Sv
open PySem PySem.Spec PyProof.Rows L2
section
variable {X : Cx} {B : Bk} {T : List (Addr × Str)} {Z : XK} {Φ : Phi} {k n : Nat} {c : SC} {e : Expr}
variable (S : Snd B T Φ k n) (ok : SOk B T Φ k c X Z)
include S ok
theorem s_kn (h : ckE (n + 1) c e .kn = true) : PE X e (rdE B T Z Φ .kn) := by
  simp only [ckE] at h
  split at h
  · exact nd_non
  · cases h
theorem s_kb {b : Bool} (h : ckE (n + 1) c e (.kb b) = true) : PE X e (rdE B T Z Φ (.kb b)) := by
  simp only [ckE] at h
  split at h
  · cases of_decide_eq_true h; exact nd_bool
  · cases h
theorem s_ki {b : Int} (h : ckE (n + 1) c e (.ki b) = true) : PE X e (rdE B T Z Φ (.ki b)) := by
  simp only [ckE] at h
  split at h
  · cases of_decide_eq_true h; exact nd_int
  · cases h
theorem s_ks {b : String} (h : ckE (n + 1) c e (.ks b) = true) : PE X e (rdE B T Z Φ (.ks b)) := by
  simp only [ckE] at h
  split at h
  · cases of_decide_eq_true h; exact nd_str
  · cases h
theorem s_x {i : Nat} (h : ckE (n + 1) c e (.x i) = true) : PE X e (rdE B T Z Φ (.x i)) := by
  simp only [ckE] at h
  split at h
  · simp only [Bool.and_eq_true, decide_eq_true_eq] at h
    obtain ⟨⟨h1, h2⟩, h3⟩ := h
    exact nd_x (ok.nx h1) (ok.vis h2) (okN1 h3).1 (okN1 h3).2
  · cases h
theorem s_gi {m : String} {i : Int} (h : ckE (n + 1) c e (.gi m i) = true) : PE X e (rdE B T Z Φ (.gi m i)) := by
  simp only [ckE] at h
  split at h
  · simp only [Bool.and_eq_true] at h
    obtain ⟨⟨h1, h2⟩, h3⟩ := h
    split at h3
    · rename_i e
      cases of_decide_eq_true h3
      obtain ⟨t, ht⟩ := ok.gl _ _ e
      exact nd_gi (ok.gl1 h1) ht (okN1 h2).1
    · cases h3
  · cases h
theorem s_bin {o : Bo} {m : Bool} {a b : E} (h : ckE (n + 1) c e (.bin o m a b) = true) : PE X e (rdE B T Z Φ (.bin o m a b)) := by
  simp only [ckE] at h
  split at h
  · simp only [Bool.and_eq_true, decide_eq_true_eq] at h
    obtain ⟨⟨rfl, h2⟩, h3⟩ := h
    exact nd_bin ok.si (S.E ok h2) (S.E ok h3)
  · cases h
theorem s_neg {a : E} (h : ckE (n + 1) c e (.neg a) = true) : PE X e (rdE B T Z Φ (.neg a)) := by
  simp only [ckE] at h
  split at h
  · exact nd_neg (S.E ok h)
  · cases h
theorem s_cmp {o : Co} {a b : E} (h : ckE (n + 1) c e (.cmp o a b) = true) : PE X e (rdE B T Z Φ (.cmp o a b)) := by
  simp only [ckE] at h
  split at h
  · simp only [Bool.and_eq_true, decide_eq_true_eq] at h
    obtain ⟨⟨⟨rfl, h1⟩, h2⟩, h3⟩ := h
    exact nd_cmp ok.op (S.E ok h2) (S.E ok h3) (marks1 h1)
  · cases h
theorem s_chn {o p : Co} {a b d : E} (h : ckE (n + 1) c e (.chn o p a b d) = true) : PE X e (rdE B T Z Φ (.chn o p a b d)) := by
  simp only [ckE] at h
  split at h
  · simp only [Bool.and_eq_true, decide_eq_true_eq] at h
    obtain ⟨⟨⟨⟨⟨rfl, rfl⟩, h1⟩, h2⟩, h3⟩, h4⟩ := h
    exact nd_chn ok.op ok.op (S.E ok h2) (S.E ok h3) (S.E ok h4) (marks1 h1)
  · cases h
theorem s_isn {neg : Bool} {a : E} (h : ckE (n + 1) c e (.isn neg a) = true) : PE X e (rdE B T Z Φ (.isn neg a)) := by
  simp only [ckE] at h
  split at h
  · simp only [Bool.and_eq_true, decide_eq_true_eq] at h
    obtain ⟨rfl, h2⟩ := h
    exact nd_isn (S.E ok h2)
  · cases h
theorem s_isb {neg b : Bool} {a : E} (h : ckE (n + 1) c e (.isb neg b a) = true) : PE X e (rdE B T Z Φ (.isb neg b a)) := by
  simp only [ckE] at h
  split at h
  · simp only [Bool.and_eq_true, decide_eq_true_eq] at h
    obtain ⟨⟨rfl, rfl⟩, h2⟩ := h
    exact nd_isb (S.E ok h2)
  · cases h
theorem s_isi {a : E} {ts : List Ty} (h : ckE (n + 1) c e (.isi a ts) = true) : PE X e (rdE B T Z Φ (.isi a ts)) := by
  simp only [ckE] at h
  split at h
  · simp only [Bool.and_eq_true, decide_eq_true_eq] at h
    obtain ⟨⟨⟨⟨rfl, h1⟩, h2⟩, h3⟩, h4⟩ := h
    obtain ⟨q1, q2⟩ := ok.bi1 h1
    split at h4
    · simp only [Bool.and_eq_true, decide_eq_true_eq] at h4
      obtain ⟨⟨k1, k2⟩, k3⟩ := h4
      obtain ⟨cs, c1, c2, c3⟩ := tysB_pa ok k3
      exact nd_isiN ok.si ok.ca (fun z => by subst z; cases k1) c1 (by omega) q1 q2 (S.E ok h3) c3 (star1 h2)
    · rename_i te hte
      split at h4
      · obtain ⟨cv, c1, c2⟩ := tyB_pe ok h4
        exact nd_isi1 ok.si ok.ca c1 q1 q2 (S.E ok h3) c2 (star1 h2) (star1 (noStr_name h4))
      · cases h4
  · cases h
theorem s_and {a b : E} (h : ckE (n + 1) c e (.and a b) = true) : PE X e (rdE B T Z Φ (.and a b)) := by
  simp only [ckE] at h
  split at h
  · simp only [Bool.and_eq_true] at h
    exact nd_and (bs := []) (pos' := ⟨0, 0, 0, 0⟩) (S.E ok h.1) (S.Bo (b := true) _ ok h.2)
  · cases h
theorem s_or {a b : E} (h : ckE (n + 1) c e (.or a b) = true) : PE X e (rdE B T Z Φ (.or a b)) := by
  simp only [ckE] at h
  split at h
  · simp only [Bool.and_eq_true] at h
    exact nd_or (bs := []) (pos' := ⟨0, 0, 0, 0⟩) (S.E ok h.1) (S.Bo (b := false) _ ok h.2)
  · cases h
theorem s_not {a : E} (h : ckE (n + 1) c e (.not a) = true) : PE X e (rdE B T Z Φ (.not a)) := by
  simp only [ckE] at h
  split at h
  · exact nd_not (S.E ok h)
  · cases h
theorem s_ite {d : Tst} {a b : E} (h : ckE (n + 1) c e (.ite d a b) = true) : PE X e (rdE B T Z Φ (.ite d a b)) := by
  simp only [ckE] at h
  split at h
  · simp only [Bool.and_eq_true] at h
    exact nd_ite (S.T' ok h.1.1) (S.E ok h.1.2) (S.E ok h.2)
  · cases h
theorem s_tup {es : Es} (h : ckE (n + 1) c e (.tup es) = true) : PE X e (rdE B T Z Φ (.tup es)) := by
  simp only [ckE] at h
  split at h
  · exact nd_tup (S.Es ok h)
  · cases h
theorem s_lst {m : Bool} {es : Es} (h : ckE (n + 1) c e (.lst m es) = true) : PE X e (rdE B T Z Φ (.lst m es)) := by
  simp only [ckE] at h
  split at h
  · exact nd_lst (S.Es ok h)
  · cases h
theorem s_dct {ks : List DK} {es : Es} (h : ckE (n + 1) c e (.dct ks es) = true) : PE X e (rdE B T Z Φ (.dct ks es)) := by
  simp only [ckE] at h
  split at h
  · simp only [Bool.and_eq_true, decide_eq_true_eq] at h
    exact nd_dct (S.D _ ok h.2) h.1
  · cases h
theorem s_idx {a i : E} (h : ckE (n + 1) c e (.idx a i) = true) : PE X e (rdE B T Z Φ (.idx a i)) := by
  simp only [ckE] at h
  split at h
  · simp only [Bool.and_eq_true] at h
    exact nd_idx ok.si (S.E ok h.1.2) (S.E ok h.2) (ix1 h.1.1)
  · cases h
theorem s_slc {m : Bool} {a : E} {lo hi : Eo} (h : ckE (n + 1) c e (.slc m a lo hi) = true) : PE X e (rdE B T Z Φ (.slc m a lo hi)) := by
  simp only [ckE] at h
  split at h
  · simp only [Bool.and_eq_true] at h
    exact nd_slc ok.si (S.E ok h.1.1) (S.O ok h.1.2) (S.O ok h.2)
  · cases h
theorem s_dgs {a : E} {z : String} (h : ckE (n + 1) c e (.dgs a z) = true) : PE X e (rdE B T Z Φ (.dgs a z)) := by
  simp only [ckE] at h
  split at h
  · simp only [Bool.and_eq_true, decide_eq_true_eq] at h
    obtain ⟨rfl, h2⟩ := h
    exact nd_dgs ok.si (S.E ok h2)
  · cases h
theorem s_att {a : E} {ps : List (Nat × Nat)} (h : ckE (n + 1) c e (.att a ps) = true) : PE X e (rdE B T Z Φ (.att a ps)) := by
  simp only [ckE] at h
  split at h
  · simp only [Bool.and_eq_true, Bool.not_eq_true'] at h
    refine nd_att ok.si ok.ca (fun C j hp cc hc => ?_) (S.E ok h.2) (base1 h.1.1)
    rw [ok.flds]
    have mem : ∀ {ps : List (Nat × Nat)}, fpos ps C = some j → (C, j) ∈ ps := fun {ps} => by
      induction ps with
      | nil => intro z; cases z
      | cons p r ih =>
        intro z
        obtain ⟨D, i⟩ := p
        unfold fpos at z
        split at z
        · rename_i e; subst e; cases z; exact List.mem_cons_self
        · exact List.mem_cons_of_mem _ (ih z)
    exact of_decide_eq_true (List.all_eq_true.mp h.1.2 _ (mem hp))
  · cases h
theorem s_call {f : Nat} {es : Es} (h : ckE (n + 1) c e (.call f es) = true) : PE X e (rdE B T Z Φ (.call f es)) := by
  simp only [ckE] at h
  split at h
  · simp only [Bool.and_eq_true] at h
    obtain ⟨⟨⟨⟨h1, h2⟩, h3⟩, h4⟩, h5⟩ := h
    split at h5
    · rename_i e
      cases of_decide_eq_true h5
      exact nd_call ok.si (ok.gl _ _ e) ok.r0 (ok.gl1 h1) (S.Es ok h4) (star1 h2) (stars h3)
    · rename_i e
      cases of_decide_eq_true h5
      exact nd_make ok.si (ok.gl _ _ e) ok.room (ok.gl1 h1) (S.Es ok h4) (star1 h2) (stars h3)
    · cases h5
  · cases h
omit S ok in
theorem kw_all {kw : List Keyword} {ks : List Str} {pos : Pos} {env : Env} (h : ks.map some = kwsOf kw) : (backToKw pos (keywordEach kw env)).all (·.1.isSome) = true ∧ (backToKw pos (keywordEach kw env)).filterMap (·.1) = ks ∧ (backToKw pos (keywordEach kw env)).any (·.1.isNone) = false := by
  unfold kwsOf at h
  unfold backToKw
  induction kw generalizing ks with
  | nil =>
    cases ks with
    | nil => exact ⟨rfl, rfl, rfl⟩
    | cons a r => cases h
  | cons q r ih =>
    cases ks with
    | nil => cases h
    | cons a ks =>
      obtain ⟨nm, v, p⟩ := q
      simp only [List.map_cons, List.cons.injEq] at h
      obtain ⟨rfl, h2⟩ := h
      obtain ⟨i1, i2, i3⟩ := ih h2
      rw [keywordEach]
      rw [List.map_cons, List.all_cons, List.any_cons, List.filterMap_cons, i1, i2, i3]
      exact ⟨rfl, rfl, rfl⟩
theorem s_callk {f : Nat} {perm : List Nat} {es : Es} (h : ckE (n + 1) c e (.callk f perm es) = true) : PE X e (rdE B T Z Φ (.callk f perm es)) := by
  simp only [ckE] at h
  split at h
  · simp only [Bool.and_eq_true] at h
    obtain ⟨⟨⟨h1, h2⟩, h3⟩, h5⟩ := h
    split at h5
    · rename_i e
      simp only [Bool.and_eq_true, decide_eq_true_eq, List.any_eq_true] at h5
      obtain ⟨rfl, q, hq, ⟨⟨⟨q1, rfl⟩, q3⟩, q4⟩⟩ := h5
      obtain ⟨k1, k2, k3⟩ := kw_all q4
      exact nd_callk ok.si (ok.gl _ _ e) ok.r0 (ok.gl1 h1) hq q1 h2 q3 (S.K ok h3) k1 k2 (by rw [k3]; rfl)
    · rename_i e
      simp only [Bool.and_eq_true, decide_eq_true_eq, List.any_eq_true] at h5
      obtain ⟨rfl, q, hq, ⟨⟨⟨q1, rfl⟩, q3⟩, q4⟩⟩ := h5
      obtain ⟨k1, k2, k3⟩ := kw_all q4
      exact nd_makek ok.si (ok.gl _ _ e) ok.room (ok.gl1 h1) hq q1 h2 q3 (S.K ok h3) k1 k2 (by rw [k3]; rfl)
    · cases h5
  · cases h
theorem s_bi {b : Bi} {a : E} (h : ckE (n + 1) c e (.bi b a) = true) : PE X e (rdE B T Z Φ (.bi b a)) := by
  simp only [ckE] at h
  split at h
  · simp only [Bool.and_eq_true, decide_eq_true_eq] at h
    obtain ⟨⟨⟨rfl, h1⟩, h2⟩, h3⟩ := h
    exact nd_bi ok.si (ok.bi1 h1).1 (ok.bi1 h1).2 (S.E ok h3) (star1 h2)
  · cases h
theorem s_bl {b : Bl} {m : Bool} {a : E} (h : ckE (n + 1) c e (.bl b m a) = true) : PE X e (rdE B T Z Φ (.bl b m a)) := by
  simp only [ckE] at h
  split at h
  · simp only [Bool.and_eq_true, decide_eq_true_eq] at h
    obtain ⟨⟨⟨rfl, h1⟩, h2⟩, h3⟩ := h
    exact nd_bl ok.si (ok.bi1 h1).1 (ok.bi1 h1).2 (S.E ok h3) (star1 h2)
  · cases h
theorem s_lrg {m : Bool} {a : E} (h : ckE (n + 1) c e (.lrg m a) = true) : PE X e (rdE B T Z Φ (.lrg m a)) := by
  simp only [ckE] at h
  split at h
  · simp only [Bool.and_eq_true, decide_eq_true_eq] at h
    obtain ⟨⟨⟨⟨⟨rfl, h1⟩, rfl⟩, h2⟩, h3⟩, h4⟩ := h
    exact nd_lrg ok.si (ok.bi1 h1).1 (ok.bi1 h1).2 (ok.bi1 h2).1 (ok.bi1 h2).2 (S.E ok h4) (star1 h3)
  · cases h
theorem s_mm {mx : Bool} {a b : E} (h : ckE (n + 1) c e (.mm mx a b) = true) : PE X e (rdE B T Z Φ (.mm mx a b)) := by
  simp only [ckE] at h
  split at h
  · simp only [Bool.and_eq_true, decide_eq_true_eq] at h
    obtain ⟨⟨⟨⟨⟨rfl, h1⟩, h2⟩, h3⟩, h4⟩, h5⟩ := h
    exact nd_mm ok.si (ok.bi1 h1).1 (ok.bi1 h1).2 (S.E ok h4) (S.E ok h5) (star1 h2) (star1 h3)
  · cases h
theorem s_popi {a i : E} (h : ckE (n + 1) c e (.popi a i) = true) : PE X e (rdE B T Z Φ (.popi a i)) := by
  simp only [ckE] at h
  split at h
  · simp only [Bool.and_eq_true, decide_eq_true_eq, Bool.not_eq_true'] at h
    obtain ⟨⟨⟨⟨⟨rfl, h1⟩, h2⟩, h3⟩, h4⟩, h5⟩ := h
    exact nd_popi ok.si (S.E ok h4) (S.E ok h5) (base1 h2) h1 (star1 h3)
  · cases h
theorem s_pop {a : E} (h : ckE (n + 1) c e (.pop a) = true) : PE X e (rdE B T Z Φ (.pop a)) := by
  simp only [ckE] at h
  split at h
  · simp only [Bool.and_eq_true, decide_eq_true_eq, Bool.not_eq_true'] at h
    obtain ⟨⟨⟨rfl, h1⟩, h2⟩, h4⟩ := h
    exact nd_pop ok.si (S.E ok h4) (base1 h2) h1
  · cases h
theorem s_index {a i : E} (h : ckE (n + 1) c e (.index a i) = true) : PE X e (rdE B T Z Φ (.index a i)) := by
  simp only [ckE] at h
  split at h
  · simp only [Bool.and_eq_true, decide_eq_true_eq, Bool.not_eq_true'] at h
    obtain ⟨⟨⟨⟨⟨rfl, h1⟩, h2⟩, h3⟩, h4⟩, h5⟩ := h
    exact nd_index ok.si (S.E ok h4) (S.E ok h5) (base1 h2) h1 (star1 h3)
  · cases h
end
end Sv
end

section
set_option Elab.async false
set_option linter.all false
set_option maxRecDepth 100000
set_option maxHeartbeats 4000000
namespace Sv
open PySem PySem.Spec PyProof.Rows L2
section
variable {X : Cx} {B : Bk} {T : List (Addr × Str)} {Z : XK} {Φ : Phi} {k n : Nat} {c : SC} {e : Expr}
variable (S : Snd B T Φ k n) (ok : SOk B T Φ k c X Z)
include S ok
theorem s_clo {j : Nat} (h : ckE (n + 1) c e (.clo j) = true) : PE X e (rdE B T Z Φ (.clo j)) := by
  simp only [ckE] at h
  split at h
  · rename_i params body scope pos
    simp only [Bool.and_eq_true] at h
    obtain ⟨⟨⟨h1, h2⟩, h3⟩, h4⟩ := h
    split at h4
    · rename_i d hd
      simp only [Bool.and_eq_true, decide_eq_true_eq] at h4
      obtain ⟨⟨⟨k1, k2⟩, k3⟩, k4⟩ := h4
      obtain ⟨cc, P, TB, hcode, hm, hu⟩ := ok.lq h1
      have hq := ok.qual h1
      refine nd_clo (c := cc) (P := P) ?_ TB hcode (by rw [hq]; exact hm) (by rw [hq]; exact hu) ?_ fun y hy => ?_
      · rw [ok.lam j d hd, ← eqArgs_eq k2, ← eqE_eq k3, ← k4, hq, ← k1]
      · unfold plainDef at h2
        split at h2
        · rfl
        · cases h2
      · have := List.all_eq_true.mp h3 y hy
        simpa using this
    · cases h4
  · cases h
theorem s_callv {f : E} {es : Es} (h : ckE (n + 1) c e (.callv f es) = true) : PE X e (rdE B T Z Φ (.callv f es)) := by
  simp only [ckE] at h
  split at h
  · rename_i pf pa args pos
    simp only [Bool.and_eq_true] at h
    obtain ⟨⟨⟨⟨h1, h2⟩, h3⟩, h4⟩, h5⟩ := h
    refine nd_callv ok.si ok.la ok.r0 (fun env => ?_) (S.E ok h4) (S.Es ok h5) (star1 h2) (stars h3)
    cases pf <;> first | exact Bool.noConfusion h1 | rfl | (rw [PySem.eval] <;> (intros; simp at *))
  · cases h
theorem s_caught {a : E} (h : ckE (n + 1) c e (.caught a) = true) : PE X e (rdE B T Z Φ (.caught a)) := by
  simp only [ckE] at h
  split at h
  · rename_i x p params body scope lpos pos
    simp only [Bool.and_eq_true] at h
    obtain ⟨⟨⟨⟨⟨⟨h1, h2⟩, h3⟩, h4⟩, h5⟩, h6⟩, h7⟩ := h
    split at h7
    · rename_i e
      obtain ⟨⟨a', g, CS, pg, bg, sg, dV, kV, doc, pm, cdv, oc, an, od, osl, ct, Ng, g1, g2, g3, g4, g5, g6, g7, g8, g9, g10, g11, g12⟩, g13⟩ := ok.gl _ _ e
      obtain ⟨cc, P, TB, hcode, hm, hu⟩ := ok.lq h3
      have hq := ok.qual h3
      have L := LamX.lamS_by h5
      unfold noArgs at h4
      split at h4
      · exact nd_caught (k := k + 1) (c := cc) (P := P) (ok.gl1 h1) g1 g2 g3 g4 g5 g6 g7 g8 (g9 X _ rfl rfl rfl rfl rfl) TB hcode (by rw [hq]; exact hm) (by rw [hq]; exact hu) (ok.top h2) (by rw [ok.sc]; exact L) rfl (fun _ _ _ _ _ => rfl)
          (fun A outer s H E f c' hr => S.E (ok.inLam L.kind hr) h6) g10 g13 g11 g12
      · cases h4
    · cases h7
  · cases h
theorem s_lc {m : Bool} {own : List Nat} {tg : Tg} {it : It} {d : Ct} {el : E} (h : ckE (n + 1) c e (.lc m own tg it d el) = true) : PE X e (rdE B T Z Φ (.lc m own tg it d el)) := by
  simp only [ckE] at h
  split at h
  · rename_i elt ptg iter ifs a scope pos
    simp only [Bool.and_eq_true, decide_eq_true_eq] at h
    obtain ⟨⟨⟨⟨⟨⟨⟨⟨rfl, h1⟩, h2⟩, h3⟩, h4⟩, h5⟩, h6⟩, h7⟩, h8⟩ := h
    have bk := blkOk_by h2
    have := nd_lc (m := m) (own := ownOf c.N own) ok.si (S.It ok h4 h5) (by rw [ok.N, ok.sc]; exact bk) (fun s H C cl fp => S.Tg (ok.blk bk.kind) h6) (fun s H C cl fp => S.C (ok.blk bk.kind) h7) (fun s H C cl fp => S.E (ok.blk bk.kind) h8) (fold1 h4)
      (by rw [h1]; intro i hi; exact of_decide_eq_true (List.all_eq_true.mp h3 i hi)) (pos := pos)
    rw [h1] at this
    exact this
  · cases h
theorem stepE {t : E} (h : ckE (n + 1) c e t = true) : PE X e (rdE B T Z Φ t) := by
  cases t with
  | kn => exact s_kn S ok h
  | kb _ => exact s_kb S ok h
  | ki _ => exact s_ki S ok h
  | ks _ => exact s_ks S ok h
  | x _ => exact s_x S ok h
  | gi _ _ => exact s_gi S ok h
  | bin _ _ _ _ => exact s_bin S ok h
  | neg _ => exact s_neg S ok h
  | cmp _ _ _ => exact s_cmp S ok h
  | chn _ _ _ _ _ => exact s_chn S ok h
  | isn _ _ => exact s_isn S ok h
  | isb _ _ _ => exact s_isb S ok h
  | isi _ _ => exact s_isi S ok h
  | and _ _ => exact s_and S ok h
  | or _ _ => exact s_or S ok h
  | not _ => exact s_not S ok h
  | ite _ _ _ => exact s_ite S ok h
  | tup _ => exact s_tup S ok h
  | lst _ _ => exact s_lst S ok h
  | dct _ _ => exact s_dct S ok h
  | idx _ _ => exact s_idx S ok h
  | slc _ _ _ _ => exact s_slc S ok h
  | dgs _ _ => exact s_dgs S ok h
  | att _ _ => exact s_att S ok h
  | call _ _ => exact s_call S ok h
  | callk _ _ _ => exact s_callk S ok h
  | bi _ _ => exact s_bi S ok h
  | bl _ _ _ => exact s_bl S ok h
  | lrg _ _ => exact s_lrg S ok h
  | mm _ _ _ => exact s_mm S ok h
  | popi _ _ => exact s_popi S ok h
  | pop _ => exact s_pop S ok h
  | index _ _ => exact s_index S ok h
  | lc _ _ _ _ _ _ => exact s_lc S ok h
  | clo _ => exact s_clo S ok h
  | callv _ _ => exact s_callv S ok h
  | caught _ => exact s_caught S ok h
theorem stepB {b : Bool} {p : Expr} {r : List Expr} {t : E} (pos : Pos) (h : ckB (n + 1) c b p r t = true) : PE X (.BoolOp (opOf b) (p :: r) pos) (rdE B T Z Φ t) := by
  cases r with
  | nil => simp only [ckB] at h; exact pe_one (S.E ok h)
  | cons q r =>
    cases b with
    | true =>
      simp only [ckB] at h
      split at h
      · rw [Bool.and_eq_true] at h
        exact nd_and (bs := []) (pos' := pos) (S.E ok h.1) (S.Bo (b := true) _ ok h.2)
      · cases h
    | false =>
      simp only [ckB] at h
      split at h
      · rw [Bool.and_eq_true] at h
        exact nd_or (bs := []) (pos' := pos) (S.E ok h.1) (S.Bo (b := false) _ ok h.2)
      · cases h
theorem stepEs {ps : List Expr} {t : Es} (h : ckEs (n + 1) c ps t = true) : PA X ps (rdEs B T Z Φ t) := by
  cases t with
  | nil => simp only [ckEs, List.isEmpty_iff] at h; subst h; exact nd_nil
  | cons a r =>
    simp only [ckEs] at h
    split at h
    · simp only [Bool.and_eq_true] at h
      exact nd_cons (S.E ok h.1.2) (S.Es ok h.2) (star1 h.1.1)
    · cases h
  | star a r =>
    simp only [ckEs] at h
    split at h
    · simp only [Bool.and_eq_true] at h
      exact nd_star ok.si (S.E ok h.1) (S.Es ok h.2)
    · cases h
theorem stepK {ps : List Keyword} {t : Es} (h : ckK (n + 1) c ps t = true) : PK X ps (rdEs B T Z Φ t) := by
  cases t with
  | nil => simp only [ckK, List.isEmpty_iff] at h; subst h; exact nk_nil
  | cons a r =>
    simp only [ckK] at h
    split at h
    · simp only [Bool.and_eq_true] at h
      rename_i q qs
      obtain ⟨nm, v, kp⟩ := q
      exact nk_cons (S.E ok h.1) (S.K ok h.2)
    · cases h
  | star a r => simp only [ckK] at h; cases h
omit S ok in
theorem key1 {ke : Option Expr} {j : DK} (h : keyB ke j = true) : ∃ e, ke = some e ∧ KeyE j e := by
  unfold keyB at h
  split at h
  · cases of_decide_eq_true h; exact ⟨_, rfl, .i _ _ _⟩
  · cases of_decide_eq_true h; exact ⟨_, rfl, .s _ _ _⟩
  · cases h
theorem stepD {keys : List (Option Expr)} {vals : List Expr} {ks : List DK} {t : Es} (pos : Pos) (h : ckD (n + 1) c keys vals ks t = true) : PPd X B T Z Φ pos keys vals ks t := by
  simp only [ckD] at h
  split at h
  · exact ppd_nil
  · simp only [Bool.and_eq_true] at h
    obtain ⟨e, rfl, he⟩ := key1 h.1.1
    exact ppd_cons he (S.E ok h.1.2) (S.D pos ok h.2)
  · cases h
theorem stepO {p : Option Expr} {t : Eo} (h : ckO (n + 1) c p t = true) : PO X p (rdO B T Z Φ t) := by
  cases t with
  | none => simp only [ckO, Option.isNone_iff_eq_none] at h; subst h; exact no_none
  | some a =>
    simp only [ckO] at h
    split at h
    · exact no_some (S.E ok h)
    · cases h
theorem stepW {b : Bool} {p : Expr} {r : List Expr} {t : Tst} (pos : Pos) (h : ckW (n + 1) c b p r t = true) : PW X (.BoolOp (opOf b) (p :: r) pos) (rdT B T Z Φ t) := by
  cases r with
  | nil =>
    cases b with
    | true => simp only [ckW] at h; exact nt_and1 (S.T' ok h)
    | false => simp only [ckW] at h; exact nt_or1 (S.T' ok h)
  | cons q r =>
    cases b with
    | true =>
      simp only [ckW] at h
      split at h
      · rw [Bool.and_eq_true] at h
        exact nt_and (S.T' ok h.1) (S.W (b := true) _ ok h.2)
      · cases h
    | false =>
      simp only [ckW] at h
      split at h
      · rw [Bool.and_eq_true] at h
        exact nt_or (S.T' ok h.1) (S.W (b := false) _ ok h.2)
      · cases h
theorem stepT {t : Tst} (h : ckT (n + 1) c e t = true) : PT X e (rdT B T Z Φ t) := by
  have val : ∀ {a : E}, (byVal e && ckE n c e a) = true → PT X e (rdT B T Z Φ (.v a)) := fun {a} h => by
    rw [Bool.and_eq_true] at h
    exact nt_v ok.si (S.E ok h.2) (byVal1 h.1)
  cases t with
  | v a =>
    cases a with
    | cmp o a b =>
      simp only [ckT] at h
      split at h
      · simp only [Bool.and_eq_true, decide_eq_true_eq] at h
        obtain ⟨⟨⟨rfl, h1⟩, h2⟩, h3⟩ := h
        exact nd_cmpT ok.op (S.E ok h2) (S.E ok h3) (marks1 h1)
      · cases h
    | chn o p a b d =>
      simp only [ckT] at h
      split at h
      · simp only [Bool.and_eq_true, decide_eq_true_eq] at h
        obtain ⟨⟨⟨⟨⟨rfl, rfl⟩, h1⟩, h2⟩, h3⟩, h4⟩ := h
        exact nd_chnT ok.op ok.op (S.E ok h2) (S.E ok h3) (S.E ok h4) (marks1 h1)
      · cases h
    | isn neg a =>
      simp only [ckT] at h
      split at h
      · simp only [Bool.and_eq_true, decide_eq_true_eq] at h
        obtain ⟨rfl, h2⟩ := h
        exact nd_isnT (S.E ok h2)
      · cases h
    | isb neg b a =>
      simp only [ckT] at h
      split at h
      · simp only [Bool.and_eq_true, decide_eq_true_eq] at h
        obtain ⟨⟨rfl, rfl⟩, h2⟩ := h
        exact nd_isbT (S.E ok h2)
      · cases h
    | _ => simp only [ckT] at h; exact val h
  | and a b =>
    simp only [ckT] at h
    split at h
    · rw [Bool.and_eq_true] at h
      exact (nt_and (S.T' ok h.1) (S.W (b := true) _ ok h.2)).pt
    · cases h
  | or a b =>
    simp only [ckT] at h
    split at h
    · rw [Bool.and_eq_true] at h
      exact (nt_or (S.T' ok h.1) (S.W (b := false) _ ok h.2)).pt
    · cases h
  | not a =>
    simp only [ckT] at h
    split at h
    · exact nt_not (S.T' ok h)
    · cases h
theorem stepC {ps : List Expr} {t : Ct} (h : ckC (n + 1) c ps t = true) : PTs X ps (rdC B T Z Φ t) := by
  cases t with
  | none => simp only [ckC, List.isEmpty_iff] at h; subst h; exact nc_none
  | some a =>
    simp only [ckC] at h
    split at h
    · exact nc_some (S.T' ok h)
    · cases h
theorem stepIt {tg : Expr} {t : It} (hs : noSet e = true) (h : ckIt (n + 1) c tg e t = true) : PI X tg e (rdI B T Z Φ t) := by
  cases t with
  | e a => simp only [ckIt] at h; exact ni_e ok.si (S.E ok h)
  | range1 a =>
    simp only [ckIt] at h
    split at h
    · simp only [Bool.and_eq_true, decide_eq_true_eq] at h
      obtain ⟨⟨⟨rfl, h1⟩, h2⟩, h3⟩ := h
      exact ni_range1 ok.si (ok.bi1 h1).1 (ok.bi1 h1).2 (S.E ok h3) (star1 h2)
    · cases h
  | range2 a b =>
    simp only [ckIt] at h
    split at h
    · simp only [Bool.and_eq_true, decide_eq_true_eq] at h
      obtain ⟨⟨⟨⟨⟨rfl, h1⟩, h2⟩, h3⟩, h4⟩, h5⟩ := h
      exact ni_range2 ok.si (ok.bi1 h1).1 (ok.bi1 h1).2 (S.E ok h4) (S.E ok h5) (star1 h2) (star1 h3)
    · cases h
  | zip a b =>
    simp only [ckIt] at h
    split at h
    · simp only [Bool.and_eq_true, decide_eq_true_eq] at h
      obtain ⟨⟨⟨⟨⟨rfl, h1⟩, h2⟩, h3⟩, h4⟩, h5⟩ := h
      exact ni_zip ok.si (ok.bi1 h1).1 (ok.bi1 h1).2 (S.E ok h4) (S.E ok h5) (star1 h2) (star1 h3)
    · cases h
  | enum a =>
    simp only [ckIt] at h
    split at h
    · simp only [Bool.and_eq_true, decide_eq_true_eq] at h
      obtain ⟨⟨⟨rfl, h1⟩, h2⟩, h3⟩ := h
      exact ni_enum ok.si (ok.bi1 h1).1 (ok.bi1 h1).2 (S.E ok h3) (star1 h2)
    · cases h
omit S ok in
theorem asg1 {p : Expr} {ps : List Expr} {env : Env} (h : noStr p = true) : assignEach (p :: ps) env = (false, assign p env) :: assignEach ps env := by
  cases p <;> first | exact Bool.noConfusion h | (rw [assignEach] <;> (intros; simp at *))
omit S ok in
theorem asgs {env : Env} : ∀ {ps : List Expr}, ps.all noStr = true → (assignEach ps env).length = ps.length ∧ (assignEach ps env).findIdx? (·.1) = none
  | [], _ => by rw [assignEach]; exact ⟨rfl, rfl⟩
  | p :: ps, h => by
    rw [List.all_cons, Bool.and_eq_true] at h
    obtain ⟨h1, h2⟩ := asgs (env := env) h.2
    rw [asg1 h.1]
    refine ⟨by simp [h1], ?_⟩
    rw [List.findIdx?_cons, h2]
    rfl
theorem stepTg {t : Tg} (h : ckTg (n + 1) c e t = true) : PG X e (rdG B T Φ t) := by
  cases t with
  | x i =>
    simp only [ckTg] at h
    split at h
    · simp only [Bool.and_eq_true, Bool.or_eq_true, decide_eq_true_eq] at h
      obtain ⟨⟨h1, h2⟩, h3⟩ := h
      exact ng_x ok.si (ok.nx h1) (ok.loc h2) (by rw [ok.fn, ok.sc]; exact h3)
    · cases h
  | sub o i =>
    simp only [ckTg] at h
    split at h
    · simp only [Bool.and_eq_true] at h
      obtain ⟨⟨h1, h2⟩, h3⟩ := h
      refine ng_sub ok.si (S.E ok h2) (S.E ok h3) fun v => ?_
      rename_i pa pi pos
      cases pi <;> first | exact Bool.noConfusion h1 | rfl | (rw [assign] <;> (intros; simp at *))
    · cases h
  | tup l =>
    simp only [ckTg] at h
    split at h
    · simp only [Bool.and_eq_true, decide_eq_true_eq] at h
      obtain ⟨⟨h1, h2⟩, h3⟩ := h
      obtain ⟨k1, k2⟩ := asgs (env := X.env) h1
      exact ng_tup ok.si (S.Tgs ok h3) k1 h2 k2
    · cases h
theorem stepTgs {ps : List Expr} {t : Tgs} (h : ckTgs (n + 1) c ps t = true) : PGs X ps (rdGs B T Φ t) := by
  cases t with
  | nil => simp only [ckTgs, List.isEmpty_iff] at h; subst h; exact ng_nil
  | cons a r =>
    simp only [ckTgs] at h
    split at h
    · simp only [Bool.and_eq_true] at h
      obtain ⟨⟨h1, h2⟩, h3⟩ := h
      exact ng_cons (S.Tg ok h2) (S.Tgs ok h3) (by rw [asg1 h1]; rfl)
    · cases h
end
/-- what was checked is so -/
theorem snd_all {B : Bk} {T : List (Addr × Str)} {Φ : Phi} {k : Nat} : ∀ n, Snd B T Φ k n
  | 0 => snd0
  | n + 1 => by
    have S := snd_all (B := B) (T := T) (Φ := Φ) (k := k) n
    exact ⟨fun ok h => stepE S ok h, fun pos ok h => stepB S ok pos h, fun ok h => stepEs S ok h, fun ok h => stepK S ok h, fun pos ok h => stepD S ok pos h, fun ok h => stepO S ok h, fun ok h => stepT S ok h, fun pos ok h => stepW S ok pos h,
      fun ok h => stepC S ok h, fun ok hs h => stepIt S ok hs h, fun ok h => stepTg S ok h, fun ok h => stepTgs S ok h⟩
end Sv
end

section
set_option Elab.async false
set_option linter.all false
set_option maxRecDepth 100000
set_option maxHeartbeats 4000000
namespace Sv
open PySem PySem.Spec PyProof.Rows L2
/-- the names that a tuple of targets stores into at once -/
def stNames (ts : List Expr) (sc : Scope) : List Str := ts.filterMap fun
  | .Name id pos => if sc.names.lookup id == some .local && pos.line == (ts.head?.map (·.pos.line)).getD 0 then some id else none
  | _ => none
def anyStar (vs : List Expr) : Bool := vs.any fun | .Starred .. => true | _ => false
/-- stored one by one, as an unpacking -/
def stNone (ts vs : List Expr) (sc : Scope) : Bool :=
  !(ts.length == 2 || ts.length == 3) || vs.length != ts.length || anyStar vs || (stNames ts sc).length != ts.length || (stNames ts sc).eraseDups.length != (stNames ts sc).length || vs.all (foldedForSure 8)
theorem st_none {ts vs : List Expr} {k k2 : Nat} {p p2 : Pos} {env : Env} (hk : env.scope.kind = .function) (h : stNone ts vs env.scope = true) : swappedStores [.Tuple ts k p] (.Tuple vs k2 p2) env = pure none := by
  have hb : env.blockKind = .function := by unfold Env.blockKind; rw [hk]; rfl
  unfold swappedStores
  dsimp only [pure_bind]
  show (if (!(ts.length == 2 || ts.length == 3) || vs.length != ts.length || env.blockKind != .function) = true then (pure none : Sem (Option (List Str))) else if anyStar vs = true then pure none else if ((stNames ts env.scope).length != ts.length || (stNames ts env.scope).eraseDups.length != (stNames ts env.scope).length) = true then pure none else if vs.all (foldedForSure 8) = true then pure none else _) = pure none
  rw [hb]
  split
  · rfl
  · split
    · rfl
    · split
      · rfl
      · split
        · rfl
        · rename_i a1 a2 a3 a4
          exfalso
          unfold stNone at h
          simp only [Bool.or_eq_true] at h a1 a3
          simp only [not_or] at a1 a3
          rcases h with ((((h | h) | h) | h) | h) | h
          · exact a1.1.1 h
          · exact a1.1.2 h
          · exact a2 h
          · exact a3.1 h
          · exact a3.2 h
          · exact a4 h
/-- two names at once -/
def stTwo (ts vs : List Expr) (sc : Scope) (x y : Str) : Bool :=
  (ts.length == 2) && vs.length == 2 && !anyStar vs && decide (stNames ts sc = [x, y]) && decide ((stNames ts sc).eraseDups.length = 2) && !vs.all (foldedForSure 8) && !vs.all (constantsAlone 8)
theorem st_two {ts vs : List Expr} {k k2 : Nat} {p p2 : Pos} {env : Env} {x y : Str} (hk : env.scope.kind = .function) (h : stTwo ts vs env.scope x y = true) : swappedStores [.Tuple ts k p] (.Tuple vs k2 p2) env = pure (some [x, y]) := by
  have hb : env.blockKind = .function := by unfold Env.blockKind; rw [hk]; rfl
  unfold stTwo at h
  simp only [Bool.and_eq_true, decide_eq_true_eq, beq_iff_eq, Bool.not_eq_true'] at h
  obtain ⟨⟨⟨⟨⟨⟨h1, h2⟩, h3⟩, h4⟩, h5⟩, h6⟩, h7⟩ := h
  unfold swappedStores
  dsimp only [pure_bind]
  show (if (!(ts.length == 2 || ts.length == 3) || vs.length != ts.length || env.blockKind != .function) = true then (pure none : Sem (Option (List Str))) else if anyStar vs = true then pure none else if ((stNames ts env.scope).length != ts.length || (stNames ts env.scope).eraseDups.length != (stNames ts env.scope).length) = true then pure none else if vs.all (foldedForSure 8) = true then pure none else if vs.all (constantsAlone 8) = true then (do let _ ← (unsupported "assign.tuple-of-constant-expressions:order-of-the-stores" : Sem PUnit); pure (some (stNames ts env.scope))) else pure (some (stNames ts env.scope))) = pure (some [x, y])
  rw [hb, if_neg (by rw [h1, h2]; decide), if_neg (by rw [h3]; decide), if_neg (by rw [h5, h4, h1]; exact Bool.false_ne_true), if_neg (by rw [h6]; decide), if_neg (by rw [h7]; decide), h4]
theorem sw1 {v t : Expr} {l : Nat} {env : Env} (hk : env.scope.kind = .function) (h : noSD v = true) : swapsWith v (some t) l env = pure (swB v t env.scope) := by
  have hb : env.blockKind = .function := by unfold Env.blockKind; rw [hk]; rfl
  unfold swapsWith
  cases v <;> first | exact Bool.noConfusion h | rfl | skip
  rename_i elt gs sc pos
  cases t <;> try rfl
  rename_i y p
  dsimp only [swB]
  rw [hb]
  show pure ((ScopeKind.function == ScopeKind.function && env.scope.names.lookup y == some .local && p.line == pos.line) && !_) = pure ((decide (env.scope.names.lookup y = some .local) && p.line == pos.line) && !_)
  have e : (env.scope.names.lookup y == some NameKind.local) = decide (env.scope.names.lookup y = some .local) := by
    by_cases q : env.scope.names.lookup y = some .local
    · rw [q]; rfl
    · rw [decide_eq_false q]; simpa using q
  rw [e]
  rfl
def noTL : Expr → Bool
  | .Tuple _ _ _ => false
  | .List _ _ => false
  | _ => true
theorem st_plain {t v : Expr} {env : Env} (h : noTL t = true) : swappedStores [t] v env = pure none := by
  cases t <;> first | exact Bool.noConfusion h | rfl
theorem st_val {ts : List Expr} {k : Nat} {p : Pos} {v : Expr} {env : Env} (h : noTL v = true) : swappedStores [.Tuple ts k p] v env = pure none := by
  cases v <;> first | exact Bool.noConfusion h | rfl
end Sv
end

section
set_option Elab.async false
set_option linter.all false
set_option maxRecDepth 100000
set_option maxHeartbeats 4000000
namespace Sv
open PySem PySem.Spec PyProof.Rows L2
/-- a value's comprehension is its name's own -/
def ckLcSet (n : Nat) (c : SC) (y : Str) (py : Pos) (e : Expr) (i : Nat) (t : E) : Bool := match t, e with
  | .lc _ own tg it d el, .ListComp elt [⟨ptg, iter, ifs, a⟩] scope pos => decide (c.N[i]? = some y) && decide (c.sc.names.lookup y = some .local) && decide (a = 0) && decide ((ownOf c.N own).map (·.2) = own) && blkC c.N c.sc scope (ownOf c.N own) && (tgN tg).all (fun i => decide (i ∈ own)) && noSet iter &&
        ckIt n c ptg iter it && ckTg n (c.blk scope) ptg tg && ckC n (c.blk scope) ifs d && ckE n (c.blk scope) elt el
  | _, _ => false
mutual
def ckS : Nat → SC → Stmt → Sv.T → Bool
  | 0, _, _, _ => false
  | n + 1, c, s, t => match t with
    | .set (.x i) e => (match s with
      | .Assign [.Name y py] pa pos => (match swB pa (.Name y py) c.sc with
        | true => ckLcSet n c y py pa i e
        | false => noSD pa && decide (c.N[i]? = some y) && locB c.sc y && (c.fn y || decide (c.sc.names.lookup y = some .local)) && ckE n c pa e)
      | _ => false)
    | .set tg e => (match s with
      | .Assign [ptg] pa pos => noSD pa && noStr ptg && !swB pa ptg c.sc && ckTg n c ptg tg && ckE n c pa e && (match ptg with
        | .Tuple ts _ _ => (match pa with
          | .Tuple vs _ _ => stNone ts vs c.sc
          | pa => noTL pa)
        | ptg => noTL ptg)
      | _ => false)
    | .par [i, j] (.cons a (.cons b .nil)) => (match s with
      | .Assign [.Tuple [.Name x px, .Name y py] kt pt] (.Tuple [pa, pb] k2 pt2) pos => decide (c.N[i]? = some x) && decide (c.N[j]? = some y) && decide (i ≠ j) && decide (c.sc.names.lookup x = some .local) && decide (c.sc.names.lookup y = some .local) &&
          noStr pa && noStr pb && stTwo [.Name x px, .Name y py] [pa, pb] c.sc x y && ckE n c pa a && ckE n c pb b
      | _ => false)
    | .par _ _ => false
    | .setDk o k e => (match s with
      | .Assign [.Subscript pa (.Constant (.str z) _ _) _] pb _ => decide (z = Str.ofString k) && noSD pb && ckE n c pa o && ckE n c pb e
      | _ => false)
    | .augIx o i e => (match s with
      | .AugAssign (.Subscript pa pb _) .Add pe _ => noSlc pb && ckE n c pa o && ckE n c pb i && ckE n c pe e
      | _ => false)
    | .setAt o C j e => (match s with
      | .Assign [.Attribute pa f _] pe _ => decide ((c.flds C)[j]? = some f) && noSD pe && ckE n c pa o && ckE n c pe e
      | _ => false)
    | .ex e => (match s with
      | .Expr pa _ => noComp pa && ckE n c pa e
      | _ => false)
    | .app o e => (match s with
      | .Expr (.Call (.Attribute pa nm apos) [pb] [] cpos) _ => decide (nm = "append") && (apos.endLine == cpos.line) && !superB pa && noStr pb && ckE n c pa o && ckE n c pb e
      | _ => false)
    | .ifs d a b => (match s with
      | .If pd pa pb _ => ckT n c pd d && ckSs n c pa a && ckSs n c pb b
      | _ => false)
    | .for tg it b => (match s with
      | .For ptg iter pb [] _ => noSet iter && ckIt n c ptg iter it && ckTg n c ptg tg && ckSs n c pb b
      | _ => false)
    | .while d b => (match s with
      | .While pd pb [] _ => ckT n c pd d && ckSs n c pb b
      | _ => false)
    | .ret e => (match s with
      | .Return (some pa) _ => ckE n c pa e
      | _ => false)
    | .retN => (match s with
      | .Return none _ => true
      | _ => false)
    | .pass => (match s with
      | .Pass _ => true
      | _ => false)
    | .raise C 0 (.cons (.ks z) .nil) => (match s with
      | .Raise (some (.Call (.Name x _) [.Constant (.str m) _ _] [] _)) none _ => decide (m = Str.ofString z) && glB c.sc x && okN x && (match c.gl.lookup x with
        | some (.exc D) => decide (D = C)
        | _ => false)
      | _ => false)
    | .raise _ _ _ => false
def ckSs : Nat → SC → List Stmt → Ts → Bool
  | 0, _, _, _ => false
  | n + 1, c, ps, t => match t with
    | .nil => ps.isEmpty
    | .cons a r => (match ps with
      | p :: ps => ckS n c p a && ckSs n c ps r
      | _ => false)
end
/-- what statements need beyond -/
structure SSOk (B : Bk) (T : List (Addr × Str)) (Φ : Phi) (k : Nat) (c : SC) (X : Cx) (Z : XK) : Prop where
  ok : SOk B T Φ k c X Z
  own : PassesOwn (model X.prog X.w) X.A X.env X.xe
  rz : ∀ x C, c.gl.lookup x = some (.exc C) → Gl X x → (x == ("__debug__" : Str)) = false → ∃ kk, B.exc C = some kk ∧ ∀ (z : Str) (j : Nat) (p1 p2 pos' : Pos), PMk X (.Call (.Name x p1) [.Constant (.str z) j p2] [] pos') (fun _ H Q => Q (.ref kk) none H)
structure SndS (B : Bk) (T : List (Addr × Str)) (Φ : Phi) (k n : Nat) : Prop where
  S : ∀ {c X Z s t}, SSOk B T Φ k c X Z → ckS n c s t = true → PS X s (rdS B T Z Φ t)
  Ss : ∀ {c X Z s t}, SSOk B T Φ k c X Z → ckSs n c s t = true → PSs X s (rdSs B T Z Φ t)
section
variable {X : Cx} {B : Bk} {T : List (Addr × Str)} {Z : XK} {Φ : Phi} {k n : Nat} {c : SC} {s : Stmt}
variable (S : SndS B T Φ k n) (so : SSOk B T Φ k c X Z)
include S so
omit S so in
theorem sole1 {v t : Expr} {l : Nat} {env : Env} {r : Sem Bool} (h : swapsWith v (some t) l env = r) : swapsWithSole [t] v l env = r := h
omit S so in
theorem sw0 {v t : Expr} {sc : Scope} (h : ∀ y p, t ≠ .Name y p) : (pure (swB v t sc) : Sem Bool) = pure false := by
  congr 1
  unfold swB
  split
  · split
    · exact absurd rfl (h _ _)
    · rfl
  · rfl
omit S so in
theorem SOk.kindX {X : Cx} {B : Bk} {T : List (Addr × Str)} {Z : XK} {Φ : Phi} {k : Nat} {c : SC} (ok : SOk B T Φ k c X Z) : X.env.scope.kind = .function := by rw [ok.sc]; exact ok.kind
theorem t_setX {i : Nat} {e : E} (h : ckS (n + 1) c s (.set (.x i) e) = true) : PS X s (rdS B T Z Φ (.set (.x i) e)) := by
  have ok := so.ok
  have G := snd_all (B := B) (T := T) (Φ := Φ) (k := k) n
  simp only [ckS] at h
  split at h
  · rename_i y py pa pos
    split at h
    · rename_i hsw
      unfold ckLcSet at h
      split at h
      · rename_i m own tg it d el elt ptg iter ifs a scope lpos
        simp only [Bool.and_eq_true, decide_eq_true_eq] at h
        obtain ⟨⟨⟨⟨⟨⟨⟨⟨⟨⟨hy, hl⟩, rfl⟩, h1⟩, h2⟩, h3⟩, h4⟩, h5⟩, h6⟩, h7⟩, h8⟩ := h
        have bk := blkOk_by h2
        have := ns_setLc (own := ownOf c.N own) (m := m) ok.si (ok.nx hy) (by rw [ok.sc]; exact hl) (py := py) (spos := pos) (by rw [sw1 ok.kindX rfl, ok.sc, hsw]) (G.It ok h4 h5) (by rw [ok.N, ok.sc]; exact bk) (fun s H C cl fp => G.Tg (ok.blk bk.kind) h6) (fun s H C cl fp => G.C (ok.blk bk.kind) h7) (fun s H C cl fp => G.E (ok.blk bk.kind) h8) (fold1 h4)
          (by rw [h1]; intro i hi; exact of_decide_eq_true (List.all_eq_true.mp h3 i hi)) (pos := lpos)
        rw [h1] at this
        exact this
      · cases h
    · rename_i hsw
      simp only [Bool.and_eq_true, Bool.or_eq_true, decide_eq_true_eq] at h
      obtain ⟨⟨⟨⟨h1, h2⟩, h3⟩, h4⟩, h5⟩ := h
      exact ns_name ok.si (ok.nx h2) (ok.loc h3) (by rw [ok.fn, ok.sc]; exact h4) (G.E ok h5) (by rw [sw1 ok.kindX h1, ok.sc, hsw])
  · cases h
theorem t_setG {tg : Tg} {e : E} (hx : ∀ i, tg ≠ .x i) (h : ckS (n + 1) c s (.set tg e) = true) : PS X s (rdS B T Z Φ (.set tg e)) := by
  have ok := so.ok
  have G := snd_all (B := B) (T := T) (Φ := Φ) (k := k) n
  cases tg with
  | x i => exact absurd rfl (hx i)
  | _ =>
    simp only [ckS] at h
    split at h
    · rename_i ptg pa pos
      simp only [Bool.and_eq_true, Bool.not_eq_true'] at h
      obtain ⟨⟨⟨⟨⟨h1, h2⟩, h3⟩, h4⟩, h5⟩, h6⟩ := h
      refine ns_set (G.E ok h5) (G.Tg ok h4) ?_ ?_ (by rw [asg1 h2]; rfl)
      · show swapsWith pa (some ptg) pos.line X.env = _
        rw [sw1 ok.kindX h1, ok.sc, h3]
      · split at h6
        · split at h6
          · exact st_none ok.kindX (by rw [ok.sc]; exact h6)
          · exact st_val h6
        · exact st_plain h6
    · cases h
theorem t_par {i j : Nat} {a b : E} (h : ckS (n + 1) c s (.par [i, j] (.cons a (.cons b .nil))) = true) : PS X s (rdS B T Z Φ (.par [i, j] (.cons a (.cons b .nil)))) := by
  have ok := so.ok
  have G := snd_all (B := B) (T := T) (Φ := Φ) (k := k) n
  simp only [ckS] at h
  split at h
  · simp only [Bool.and_eq_true, decide_eq_true_eq] at h
    obtain ⟨⟨⟨⟨⟨⟨⟨⟨⟨h1, h2⟩, h3⟩, h4⟩, h5⟩, h6⟩, h7⟩, h8⟩, h9⟩, h10⟩ := h
    exact ns_par ok.si (ok.nx h1) (ok.nx h2) h3 (by rw [ok.sc]; exact h4) (by rw [ok.sc]; exact h5) (G.E ok h9) (G.E ok h10) (star1 h6) (star1 h7) (st_two ok.kindX (by rw [ok.sc]; exact h8)) (sole1 (sw1 ok.kindX rfl))
  · cases h
theorem stepS {t : Sv.T} (h : ckS (n + 1) c s t = true) : PS X s (rdS B T Z Φ t) := by
  have ok := so.ok
  have G := snd_all (B := B) (T := T) (Φ := Φ) (k := k) n
  cases t with
  | set tg e =>
    cases tg with
    | x i => exact t_setX S so h
    | sub o i => exact t_setG S so (fun i z => by cases z) h
    | tup l => exact t_setG S so (fun i z => by cases z) h
  | par is es =>
    match is, es, h with
    | [i, j], .cons a (.cons b .nil), h => exact t_par S so h
    | [], _, h => simp only [ckS] at h; cases h
    | [_], _, h => simp only [ckS] at h; cases h
    | _ :: _ :: _ :: _, _, h => simp only [ckS] at h; cases h
    | [_, _], .nil, h => simp only [ckS] at h; cases h
    | [_, _], .star _ _, h => simp only [ckS] at h; cases h
    | [_, _], .cons _ .nil, h => simp only [ckS] at h; cases h
    | [_, _], .cons _ (.star _ _), h => simp only [ckS] at h; cases h
    | [_, _], .cons _ (.cons _ (.cons _ _)), h => simp only [ckS] at h; cases h
    | [_, _], .cons _ (.cons _ (.star _ _)), h => simp only [ckS] at h; cases h
  | setDk o z e =>
    simp only [ckS] at h
    split at h
    · simp only [Bool.and_eq_true, decide_eq_true_eq] at h
      obtain ⟨⟨⟨rfl, h1⟩, h2⟩, h3⟩ := h
      exact ns_setDk ok.si (G.E ok h2) (G.E ok h3) (sole1 ((sw1 ok.kindX h1).trans (sw0 (fun _ _ z => by cases z)))) (st_plain rfl)
    · cases h
  | augIx o i e =>
    simp only [ckS] at h
    split at h
    · simp only [Bool.and_eq_true] at h
      obtain ⟨⟨⟨h1, h2⟩, h3⟩, h4⟩ := h
      refine ns_augIx ok.si (G.E ok h2) (G.E ok h3) (G.E ok h4) fun ov iv new => ?_
      rename_i pa pb p1 pe p2
      cases pb <;> first | exact Bool.noConfusion h1 | rfl
    · cases h
  | setAt o C j e =>
    simp only [ckS] at h
    split at h
    · simp only [Bool.and_eq_true, decide_eq_true_eq] at h
      obtain ⟨⟨⟨h0, h1⟩, h2⟩, h3⟩ := h
      exact ns_setAt ok.si ok.ca (by rw [ok.flds]; exact h0) (G.E ok h2) (G.E ok h3) ((sw1 ok.kindX h1).trans (sw0 (fun _ _ z => by cases z)))
    · cases h
  | ex e =>
    simp only [ckS] at h
    split at h
    · simp only [Bool.and_eq_true] at h
      refine ns_ex (G.E ok h.2) ?_
      rename_i pa pos
      have h1 := h.1
      cases pa <;> first | exact Bool.noConfusion h1 | rfl
    · cases h
  | app o e =>
    simp only [ckS] at h
    split at h
    · simp only [Bool.and_eq_true, decide_eq_true_eq, Bool.not_eq_true'] at h
      obtain ⟨⟨⟨⟨⟨rfl, h1⟩, h2⟩, h3⟩, h4⟩, h5⟩ := h
      exact ns_app ok.si (G.E ok h4) (G.E ok h5) (base1 h2) h1 (star1 h3)
    · cases h
  | ifs d a b =>
    simp only [ckS] at h
    split at h
    · simp only [Bool.and_eq_true] at h
      exact ns_if (G.T' ok h.1.1) (S.Ss so h.1.2) (S.Ss so h.2)
    · cases h
  | «for» tg it b =>
    simp only [ckS] at h
    split at h
    · simp only [Bool.and_eq_true] at h
      obtain ⟨⟨⟨h1, h2⟩, h3⟩, h4⟩ := h
      exact ns_for so.own ok.si (G.It ok h1 h2) (G.Tg ok h3) (S.Ss so h4) (fold1 h1)
    · cases h
  | «while» d b =>
    simp only [ckS] at h
    split at h
    · simp only [Bool.and_eq_true] at h
      exact ns_while so.own (G.T' ok h.1) (S.Ss so h.2)
    · cases h
  | ret e =>
    simp only [ckS] at h
    split at h
    · exact ns_ret (G.E ok h)
    · cases h
  | retN =>
    simp only [ckS] at h
    split at h
    · exact ns_retN
    · cases h
  | pass =>
    simp only [ckS] at h
    split at h
    · exact ns_pass
    · cases h
  | raise C m es =>
    have raiseX : ∀ {z : String}, ckS (n + 1) c s (.raise C 0 (.cons (.ks z) .nil)) = true → PS X s (rdS B T Z Φ (.raise C 0 (.cons (.ks z) .nil))) := fun {z} h => by
      simp only [ckS] at h
      split at h
      · simp only [Bool.and_eq_true, decide_eq_true_eq] at h
        obtain ⟨⟨⟨rfl, h1⟩, h2⟩, h3⟩ := h
        split at h3
        · rename_i e
          have hD := of_decide_eq_true h3
          subst hD
          obtain ⟨kk, hk, hm⟩ := so.rz _ _ e (ok.gl1 h1) (okN1 h2).1
          exact ns_raise ok.si hk (hm _ _ _ _ _)
        · cases h3
      · cases h
    match m, es, h with
    | m + 1, es, h => simp only [ckS] at h; cases h
    | 0, .nil, h => simp only [ckS] at h; cases h
    | 0, .star _ _, h => simp only [ckS] at h; cases h
    | 0, .cons e r, h =>
      cases e with
      | ks z =>
        cases r with
        | nil => exact raiseX h
        | _ => simp only [ckS] at h; cases h
      | _ => simp only [ckS] at h; cases h
theorem stepSs {ps : List Stmt} {t : Ts} (h : ckSs (n + 1) c ps t = true) : PSs X ps (rdSs B T Z Φ t) := by
  cases t with
  | nil => simp only [ckSs, List.isEmpty_iff] at h; subst h; exact nss_nil
  | cons a r =>
    simp only [ckSs] at h
    split at h
    · simp only [Bool.and_eq_true] at h
      exact nss_cons (S.S so h.1) (S.Ss so h.2)
    · cases h
end
theorem sndS_all {B : Bk} {T : List (Addr × Str)} {Φ : Phi} {k : Nat} : ∀ n, SndS B T Φ k n
  | 0 => ⟨fun _ h => (by simp only [ckS] at h; cases h), fun _ h => (by simp only [ckSs] at h; cases h)⟩
  | n + 1 => ⟨fun so h => stepS (sndS_all n) so h, fun so h => stepSs (sndS_all n) so h⟩
end Sv
end

section
set_option Elab.async false
set_option linter.all false
set_option maxRecDepth 100000
set_option maxHeartbeats 4000000
/-! a def, by its checked text -/
namespace Sv
open PySem PySem.Spec PyProof.Rows L2
/-- what all defs of a text rest on, at the depth of Φ: callees at the level k -/
structure Env1 (P : Program) (w : World) (K : PySem.W.Frag) (mg : Str → Option Value) (base : Heap) (B : Bk) (T : List (Addr × Str)) (Φ : Phi) (k : Nat) (gl : List (Str × G)) : Prop where
  hK : B.K = K
  ca : ClsAll B
  eq : EqAll P w K mg base B T Φ k
  la : LamAll P w K mg base B T Φ k
  hgl : ∀ x g, gl.lookup x = some g → GM P w K mg base B T Φ k x g
  rz : ∀ (X : Cx), X.prog = P → X.w = w → X.K = K → X.mg = mg → X.base = base → ∀ x C, gl.lookup x = some (.exc C) → Gl X x → (x == ("__debug__" : Str)) = false → ∃ kk, B.exc C = some kk ∧ ∀ (z : Str) (j : Nat) (p1 p2 pos' : Pos), PMk X (.Call (.Name x p1) [.Constant (.str z) j p2] [] pos') (fun _ H Q => Q (.ref kk) none H)
section
variable {P : Program} {w : World} {K : PySem.W.Frag} {mg : Str → Option Value} {base : Heap} {B : Bk} {T : List (Addr × Str)} {Φ : Phi} {k : Nat} {gl : List (Str × G)} {c : SC} {qual : Str} {N ps : List Str}
/-- a def's body stands as c says -/
theorem sok_fn (e : Env1 P w K mg base B T Φ k gl) (hgl : c.gl = gl) (hN : N = c.N) (Sc : FnScope N ps c.sc) (hfn : ∀ x, c.fn x = true) (hfl : B.flds = c.flds) (hlam : ∀ j d, c.lam.lookup j = some d → B.lam j = some d) (hq : c.qual = qual ++ (".<locals>." : Str))
    {f : Addr} {cdv : Value} {A : Around} {outer : List Env} {s : Shared} {H : Hp} {E : XK} (hr : Room (k + 3) (A.deeper (envOfC qual c.sc s.heap.objs.size f cdv)))
    (hlq : c.lq = true → ∃ cc P', LamX.TabB base mg cc P' ∧ cdv = .ref cc ∧ (P', c.qual ++ "<lambda>") ∈ T ∧ ∀ p ∈ T, p.1 = P' → p.2 = c.qual ++ "<lambda>") :
    SSOk B T Φ k c (cxOf (L2.CX P w) P w K mg base N qual c.sc f cdv A outer s H E) E where
  ok := {
    si := ⟨e.hK, rfl, by have := hr.un; show (A.deeper (envOfC qual c.sc s.heap.objs.size f cdv)).units + 65 < _; omega, Sc.nd, L2.takes_of rfl rfl rfl rfl⟩
    ca := e.ca
    eq := e.eq
    la := e.la
    room := hr.mono (by omega)
    N := hN
    sc := rfl
    kind := Sc.kind
    fn := fun x => (hfn x).symm
    flds := hfl
    lam := hlam
    qual := fun _ => hq.symm
    gl := fun x g h => e.hgl x g (hgl ▸ h)
    lq := hlq
    top := fun _ => hr }
  own := L2.passes_of rfl
  rz := fun x C h => e.rz _ rfl rfl rfl rfl rfl x C (hgl ▸ h)
/-- a def's body keeps what its plain meaning says -/
theorem body_fn {U : Nat → Option FD} {n fuel fn np nl : Nat} {kp : Bool} {b : Ts} {body : List Stmt} (e : Env1 P w K mg base B T (phi U n) k gl) (hU : U fn = some (mkFn kp np nl b)) (hck : ckSs fuel c body b = true) (hnl : N.length = nl) (hpl : np ≤ nl)
    (hgl : c.gl = gl) (hN : N = c.N) (Sc : FnScope N ps c.sc) (hfn : ∀ x, c.fn x = true) (hfl : B.flds = c.flds) (hlam : ∀ j d, c.lam.lookup j = some d → B.lam j = some d) (hq : c.qual = qual ++ (".<locals>." : Str))
    {f : Addr} {cdv : Value} {A : Around} {outer : List Env} {s : Shared} {H : Hp} {vs : List V} {Q : VK} {E : XK} (hr : Room (k + 3) (A.deeper (envOfC qual c.sc s.heap.objs.size f cdv)))
    (hlq : c.lq = true → ∃ cc P', LamX.TabB base mg cc P' ∧ cdv = .ref cc ∧ (P', c.qual ++ "<lambda>") ∈ T ∧ ∀ p ∈ T, p.1 = P' → p.2 = c.qual ++ "<lambda>") (h : spF B T (phi U (n + 1)) fn np vs H Q E) :
    ∃ t, PSs (cxOf (L2.CX P w) P w K mg base N qual c.sc f cdv A outer s H E) body t ∧ t { nx := fun _ H' => Q .non H', rt := Q } (L2.start N vs) H := by
  refine ⟨_, (sndS_all fuel).Ss (sok_fn (Φ := phi U n) e hgl hN Sc hfn hfl hlam hq hr hlq) hck, ?_⟩
  obtain ⟨ex, ρ, S, xs, hl, st, r, h⟩ := h
  have hx : xs.length = np := by rw [r.length]; exact hl
  cases kp with
  | false =>
    have h2 : phi U (n + 1) fn xs S = fin S (exs (phi U n) b (startS nl xs) S) := by
      rw [phi, hU]
      show runF _ _ _ _ _ = _
      unfold runF mkFn
      dsimp only
      rw [if_pos hx]
    rw [h2] at h
    exact fin_read st r hnl (by omega) h
  | true =>
    have h2 : phi U (n + 1) fn xs S = finK (exs (phi U n) b (startS nl xs) S) := by
      rw [phi, hU]
      show runF _ _ _ _ _ = _
      unfold runF mkFn
      dsimp only
      rw [if_pos hx]
    rw [h2] at h
    exact fink_read st r hnl (by omega) h
/-- an __init__'s body -/
theorem body_init {U : Nat → Option FD} {n fuel np nl : Nat} {b : Ts} {body : List Stmt} (e : Env1 P w K mg base B T (phi U n) k gl) (hck : ckSs fuel c body b = true) (hnl : N.length = nl) (hpl : np ≤ nl)
    (hgl : c.gl = gl) (hN : N = c.N) (Sc : FnScope N ps c.sc) (hfn : ∀ x, c.fn x = true) (hfl : B.flds = c.flds) (hlam : ∀ j d, c.lam.lookup j = some d → B.lam j = some d) (hq : c.qual = qual ++ (".<locals>." : Str))
    {f : Addr} {cdv : Value} {A : Around} {outer : List Env} {s : Shared} {H : Hp} {vs : List V} {Q : VK} {E : XK} (hr : Room (k + 3) (A.deeper (envOfC qual c.sc s.heap.objs.size f cdv)))
    (hlq : c.lq = true → ∃ cc P', LamX.TabB base mg cc P' ∧ cdv = .ref cc ∧ (P', c.qual ++ "<lambda>") ∈ T ∧ ∀ p ∈ T, p.1 = P' → p.2 = c.qual ++ "<lambda>") (h : spI B T (phi U n) nl b np vs H Q E) :
    ∃ t, PSs (cxOf (L2.CX P w) P w K mg base N qual c.sc f cdv A outer s H E) body t ∧ t { nx := fun _ H' => Q .non H', rt := Q } (L2.start N vs) H :=
  ⟨_, (sndS_all fuel).Ss (sok_fn (Φ := phi U n) e hgl hN Sc hfn hfl hlam hq hr hlq) hck, init_read hnl hpl h⟩
/-- a lambda that captures nothing, by its checked body -/
theorem lam_ok {U : Nat → Option FD} {n fuel j np nl : Nat} {d : LamD} {ee : E} (e : Env1 P w K mg base B T (phi U n) k gl) (hU : U j = some (.lam np nl ee)) (hck : ckE fuel c d.body ee = true) (hnl : N.length = nl) (hpl : np ≤ nl) (hps : ps.length = np)
    (hgl : c.gl = gl) (hN : N = c.N) (hsc : c.sc = d.scope) (Sc : FnScope N ps d.scope) (hfn : ∀ x, c.fn x = true) (hfl : B.flds = c.flds) (hlam : ∀ j d, c.lam.lookup j = some d → B.lam j = some d) (hlq : c.lq = false) (htop : c.top = false)
    (hbind : ∀ (pm cv ctv : Value) (us : List Value), us.length = ps.length → bindArgs (PySem.W.kla_fn "<lambda>" d.qual d.params d.body d.scope [] pm cv ctv) ⟨us, []⟩ = pure (ps.zip us)) :
    LamOk P w K mg base B T (phi U (n + 1)) (k + 2) j d ps.length :=
  lam_of (k := k + 1) (Φ' := phi U n) (N := N) Sc hnl (by omega) hbind (fun xs S => by rw [phi, hU, hps]) fun f cdv A outer s H Z hr => (snd_all fuel).E (c := c) {
    si := ⟨e.hK, rfl, by have := hr.un; show (A.deeper (envOfC d.qual d.scope s.heap.objs.size f cdv)).units + 65 < _; omega, Sc.nd, L2.takes_of rfl rfl rfl rfl⟩
    ca := e.ca
    eq := e.eq
    la := e.la
    room := hr
    N := hN
    sc := hsc.symm
    kind := by rw [hsc]; exact Sc.kind
    fn := fun x => (hfn x).symm
    flds := hfl
    lam := hlam
    qual := fun h => absurd (hlq ▸ h : false = true) Bool.false_ne_true
    gl := fun x g h => e.hgl x g (hgl ▸ h)
    lq := fun h => absurd (hlq ▸ h : false = true) Bool.false_ne_true
    top := fun h => absurd (htop ▸ h : false = true) Bool.false_ne_true } hck
end
end Sv
end

section
set_option Elab.async false
set_option linter.all false
set_option maxRecDepth 100000
set_option maxHeartbeats 4000000
/-! what is asked of the top's objects, decided by running -/
namespace Sv
open PySem PySem.Spec PyProof.Rows L2
/-- the classes and errors of a text: numbers, names -/
structure Tabs where
  cls : List (Nat × Str)
  exc : List (Nat × Str)
  flds : Nat → List Str
  lam : List (Nat × LamD)
def Tabs.bk (t : Tabs) (K : PySem.W.Frag) : Bk where
  K := K
  cls := fun C => (t.cls.lookup C).map (He.ga K)
  flds := t.flds
  exc := fun C => (t.exc.lookup C).map (He.ga K)
  lam := fun j => t.lam.lookup j
def clsB (K : PySem.W.Frag) (x : Str) (fl : List Str) : Bool :=
  (He.Fa.cls x).ok K && He.eqO (PySem.W.findIn K (.ref (He.ga K x)) "__class__") (some (some (.builtin "object.__class__"))) && decide (PySem.W.mroIn K (He.ga K x) (.type "object") = some true) && fl.all (fun f => (He.Fa.noat x f).ok K) && decide fl.Nodup && decide (fl.length < 1000)
def excB (K : PySem.W.Frag) (x : Str) : Bool :=
  He.eqO (PySem.W.findIn K (.ref (He.ga K x)) "__getattribute__") (some (some (.builtin "BaseException.__getattribute__"))) && He.eqO (PySem.W.findIn K (.ref (He.ga K x)) "__getattr__") (some none) && decide (PySem.W.subIn K (.ref (He.ga K x)) (.type "BaseException") = some true) && PySem.W.hasDictIn K (He.ga K x) &&
    He.eqO (PySem.W.findIn K (.ref (He.ga K x)) "__class__") (some (some (.builtin "object.__class__"))) && decide (PySem.W.mroIn K (He.ga K x) (.type "object") = some true) && (He.Fa.exc x).ok K
def kdAll (t : Tabs) : List Kd := [.non, .bl, .int, .str, .tup, .lst, .dct] ++ t.cls.map (fun p => .own p.1) ++ t.exc.map (fun p => .err p.1)
def tyAll (t : Tabs) : List Ty := [.int, .bool, .str, .list, .tuple, .dict] ++ t.cls.map (fun p => .cls p.1) ++ t.exc.map (fun p => .cls p.1)
def kitB (t : Tabs) (K : PySem.W.Frag) : Bool := (kdAll t).all fun k => (tyAll t).all fun y => match kdV (t.bk K) k, tyV2 (t.bk K) y with
  | some tv, some cv => decide (PySem.W.kitOne K tv cv.2 = some (kdT k y))
  | _, _ => true
def nfB (t : Tabs) (K : PySem.W.Frag) : Bool := t.cls.all fun p => PySem.W.notFirst K (He.ga K p.2) (.type "function") && (kdAll t).all fun k => match kdV (t.bk K) k with
  | some tv => PySem.W.notFirst K (He.ga K p.2) tv
  | none => true
/-- all of it -/
def topB (t : Tabs) (K : PySem.W.Frag) : Bool :=
  t.cls.all (fun p => clsB K p.2 (t.flds p.1)) && t.exc.all (fun p => excB K p.2) && He.eqO (PySem.W.specialIn K (.builtin "object.__class__") "__get__") (some (some (.builtin "getset_descriptor.__get__"))) && decide (PySem.W.takesIn K (.builtin "object.__class__") = some true) && kitB t K && nfB t K
theorem lookup_memN {α : Type} {n : Nat} {a : α} : ∀ {l : List (Nat × α)}, l.lookup n = some a → (n, a) ∈ l
  | [], h => by cases h
  | (m, b) :: r, h => by
    rw [List.lookup_cons] at h
    split at h
    · rename_i e
      cases h
      rw [beq_iff_eq] at e
      rw [e]
      exact List.mem_cons_self
    · exact List.mem_cons_of_mem _ (lookup_memN h)
section
variable {t : Tabs} {K : PySem.W.Frag}
theorem kd_mem {k : Kd} {tv : Value} (h : kdV (t.bk K) k = some tv) : k ∈ kdAll t := by
  unfold kdAll
  cases k with
  | own C =>
    have h : ((t.cls.lookup C).map (He.ga K)).map Value.ref = some tv := h
    cases e : t.cls.lookup C with
    | none => rw [e] at h; cases h
    | some x =>
      have := lookup_memN e
      simp only [List.mem_append, List.mem_map]
      exact .inl (.inr ⟨_, this, rfl⟩)
  | err C =>
    have h : ((t.exc.lookup C).map (He.ga K)).map Value.ref = some tv := h
    cases e : t.exc.lookup C with
    | none => rw [e] at h; cases h
    | some x =>
      have := lookup_memN e
      simp only [List.mem_append, List.mem_map]
      exact .inr ⟨_, this, rfl⟩
  | _ => simp
theorem ty_mem {y : Ty} {cv : V × Value} (h : tyV2 (t.bk K) y = some cv) : y ∈ tyAll t := by
  unfold tyAll
  cases y with
  | cls C =>
    cases e : t.cls.lookup C with
    | some x =>
      have := lookup_memN e
      simp only [List.mem_append, List.mem_map]
      exact .inl (.inr ⟨_, this, rfl⟩)
    | none =>
      cases e2 : t.exc.lookup C with
      | some x =>
        have := lookup_memN e2
        simp only [List.mem_append, List.mem_map]
        exact .inr ⟨_, this, rfl⟩
      | none =>
        have h : (match (t.cls.lookup C).map (He.ga K) with
          | some c => some (V.ref c, Value.ref c)
          | none => ((t.exc.lookup C).map (He.ga K)).map fun c => (V.ref c, Value.ref c)) = some cv := h
        rw [e, e2] at h
        cases h
  | _ => simp
theorem clsAll_of (h : topB t K = true) : ClsAll (t.bk K) := by
  unfold topB at h
  simp only [Bool.and_eq_true, decide_eq_true_eq] at h
  obtain ⟨⟨⟨⟨⟨h1, h2⟩, h3⟩, h4⟩, h5⟩, h6⟩ := h
  refine ⟨fun C c hc => ?_, fun C c hc => ?_, He.eqO_ok h3, h4, fun k y tv cv hk hy => ?_⟩
  · have hc : (t.cls.lookup C).map (He.ga K) = some c := hc
    cases e : t.cls.lookup C with
    | none => rw [e] at hc; cases hc
    | some x =>
      rw [e] at hc
      cases hc
      have q := List.all_eq_true.mp h1 _ (lookup_memN e)
      unfold clsB at q
      simp only [Bool.and_eq_true, decide_eq_true_eq] at q
      obtain ⟨⟨⟨⟨⟨q1, q2⟩, q3⟩, q4⟩, q5⟩, q6⟩ := q
      exact ⟨He.cls_ok q1, He.eqO_ok q2, q3, fun f hf => He.noat_ok (List.all_eq_true.mp q4 f hf), q5, q6⟩
  · have hc : (t.exc.lookup C).map (He.ga K) = some c := hc
    cases e : t.exc.lookup C with
    | none => rw [e] at hc; cases hc
    | some x =>
      rw [e] at hc
      cases hc
      have q := List.all_eq_true.mp h2 _ (lookup_memN e)
      unfold excB at q
      simp only [Bool.and_eq_true, decide_eq_true_eq] at q
      obtain ⟨⟨⟨⟨⟨⟨q1, q2⟩, q3⟩, q4⟩, q5⟩, q6⟩, q7⟩ := q
      exact ⟨He.eqO_ok q1, He.eqO_ok q2, q3, q4, He.eqO_ok q5, He.eqO_ok h3, h4, q6⟩
  · have q := List.all_eq_true.mp (List.all_eq_true.mp h5 k (kd_mem hk)) y (ty_mem hy)
    rw [hk, hy] at q
    exact of_decide_eq_true q
theorem nf_of (h : topB t K = true) : (∀ k tv C c, kdV (t.bk K) k = some tv → (t.bk K).cls C = some c → PySem.W.notFirst K c tv = true) ∧ (∀ C c, (t.bk K).cls C = some c → PySem.W.notFirst K c (.type "function") = true) := by
  unfold topB at h
  simp only [Bool.and_eq_true] at h
  have h6 := h.2
  have key : ∀ C c, (t.bk K).cls C = some c → ∃ x, (C, x) ∈ t.cls ∧ c = He.ga K x := fun C c hc => by
    have hc : (t.cls.lookup C).map (He.ga K) = some c := hc
    cases e : t.cls.lookup C with
    | none => rw [e] at hc; cases hc
    | some x => rw [e] at hc; cases hc; exact ⟨x, lookup_memN e, rfl⟩
  refine ⟨fun k tv C c hk hc => ?_, fun C c hc => ?_⟩
  · obtain ⟨x, hx, rfl⟩ := key C c hc
    have q := List.all_eq_true.mp h6 _ hx
    rw [Bool.and_eq_true] at q
    have q2 := List.all_eq_true.mp q.2 k (kd_mem hk)
    rw [hk] at q2
    exact q2
  · obtain ⟨x, hx, rfl⟩ := key C c hc
    have q := List.all_eq_true.mp h6 _ hx
    rw [Bool.and_eq_true] at q
    exact q.1
end
end Sv
end

section
set_option Elab.async false
set_option linter.all false
set_option maxRecDepth 100000
set_option maxHeartbeats 4000000
/-! defs by rows -/
namespace Sv
open PySem PySem.Spec PyProof.Rows L2
def fnScB (N ps : List Str) (sc : Scope) : Bool :=
  decide (sc.kind = .function) && !sc.isCoroutine && !sc.isGenerator && decide N.Nodup && decide (N.take ps.length = ps) && ps.all (fun x => decide (sc.names.lookup x = some .local) || decide (sc.names.lookup x = some .cell)) && sc.names.all (fun y => !decide (y.2 = .free))
theorem fnSc_of {N ps : List Str} {sc : Scope} (h : fnScB N ps sc = true) : FnScope N ps sc := by
  unfold fnScB at h
  simp only [Bool.and_eq_true, decide_eq_true_eq, Bool.not_eq_true', List.all_eq_true, Bool.or_eq_true, decide_eq_false_iff_not] at h
  obtain ⟨⟨⟨⟨⟨⟨h1, h2⟩, h3⟩, h4⟩, h5⟩, h6⟩, h7⟩ := h
  exact ⟨h1, h2, h3, h4, h5, h6, h7⟩
/-- the static place of a def's body -/
def rowC (t : Tabs) (gl : List (Str × G)) (lq : Bool) (N : List Str) (d : He.DefD) : SC where
  N := N
  sc := d.scope
  fn := fun _ => true
  gl := gl
  flds := t.flds
  lam := t.lam
  qual := d.qual ++ (".<locals>." : Str)
  lq := lq
  top := true
/-- how a def's parameters are bound, by place and by name -/
def BindOk (d : He.DefD) (ps : List Str) (kws : List KwF) : Prop :=
  (∀ (kV doc pm : Value) (an : Option Addr) (cdv ct : Value) (us : List Value), us.length = ps.length → bindArgs (PySem.W.fnOf d.name d.qual d.params d.body d.scope .none kV doc pm an cdv ct) ⟨us, []⟩ = pure (ps.zip us)) ∧
    ∀ q ∈ kws, q.perm.length = ps.length ∧ (∀ j ∈ q.perm, j < q.n + q.ks.length) ∧ ∀ (kV doc pm : Value) (an : Option Addr) (cdv ct : Value) (us ws : List Value), us.length = q.n → ws.length = q.ks.length → bindArgs (PySem.W.fnOf d.name d.qual d.params d.body d.scope .none kV doc pm an cdv ct) ⟨us, q.ks.zip ws⟩ = pure (ps.zip (permG q.perm us ws))
/-- the same for an __init__, as its class is called -/
def BindOkI (d : He.DefD) (ps : List Str) (kws : List KwF) : Prop :=
  (∀ (kV doc pm : Value) (an : Option Addr) (cdv ct : Value) (us : List Value), us.length = ps.length → bindArgs (PySem.W.fnOf d.name d.qual d.params d.body d.scope .none kV doc pm an cdv ct) ⟨us, []⟩ = pure (ps.zip us)) ∧
    ∀ q ∈ kws, q.perm.length + 1 = ps.length ∧ (∀ j ∈ q.perm, j < q.n + q.ks.length) ∧ ∀ (kV doc pm : Value) (an : Option Addr) (cdv ct : Value) (us ws : List Value), us.length = q.n + 1 → ws.length = q.ks.length → bindArgs (PySem.W.fnOf d.name d.qual d.params d.body d.scope .none kV doc pm an cdv ct) ⟨us, q.ks.zip ws⟩ = pure (ps.zip (permG (0 :: q.perm.map (· + 1)) us ws))
/-- where the tables of code objects are known: the defs that make lambdas -/
structure LqOk (K : PySem.W.Frag) (mg : Str → Option Value) (base : Heap) (T : List (Addr × Str)) (tf : List (He.Defn × Str)) : Prop where
  tab : ∀ p ∈ tf, LamX.TabB base mg (He.cT K p.1).1 (He.cT K p.1).2
  T : T = tf.map fun p => ((He.cT K p.1).2, p.2 ++ (".<locals>." : Str) ++ ("<lambda>" : Str))
  nd : (tf.map fun p => (He.cT K p.1).2).Nodup
section
variable {P : Program} {w : World} {K : PySem.W.Frag} {mg : Str → Option Value} {base : Heap} {t : Tabs} {T : List (Addr × Str)} {gl : List (Str × G)} {tf : List (He.Defn × Str)} {d : He.DefD} {N ps : List Str} {lq : Bool}
theorem LqOk.at (l : LqOk K mg base T tf) {oc : Value} {od : Option Addr} {osl : Array (Option Value)} {fd : FuncData} (hm : (d.at_, d.qual) ∈ tf) (lk : K.lookup (He.fAd K d.at_) = some ⟨oc, od, .func fd, osl⟩) {cdv : Value} (hc : fd.code = cdv) (hcd : PySem.W.codeIn K cdv d.qual = true) :
    ∃ cc P', LamX.TabB base mg cc P' ∧ cdv = .ref cc ∧ (P', d.qual ++ (".<locals>." : Str) ++ ("<lambda>" : Str)) ∈ T ∧ ∀ p ∈ T, p.1 = P' → p.2 = d.qual ++ (".<locals>." : Str) ++ ("<lambda>" : Str) := by
  obtain ⟨cc, rfl⟩ := He.codeIn_ref hcd
  have e := He.codeOf_eq lk hc
  have q := l.tab _ hm
  have e1 : (He.cT K d.at_).1 = cc := e
  refine ⟨cc, (He.cT K d.at_).2, by rw [← e1]; exact q, rfl, ?_, fun p hp hP => ?_⟩
  · rw [l.T]
    exact List.mem_map.mpr ⟨(d.at_, d.qual), hm, rfl⟩
  · rw [l.T] at hp
    obtain ⟨z, hz, rfl⟩ := List.mem_map.mp hp
    have : z = (d.at_, d.qual) := by
      have inj : ∀ {l : List (He.Defn × Str)} {x y : He.Defn × Str}, (l.map fun p => (He.cT K p.1).2).Nodup → x ∈ l → y ∈ l → (He.cT K x.1).2 = (He.cT K y.1).2 → x = y := fun {l} => by
        induction l with
        | nil => intro x y _ hx; cases hx
        | cons a r ih =>
          intro x y nd hx hy e
          rw [List.map_cons, List.nodup_cons] at nd
          rcases List.mem_cons.mp hx with hx | hx
          · rcases List.mem_cons.mp hy with hy | hy
            · rw [hx, hy]
            · exact absurd (List.mem_map.mpr ⟨y, hy, by rw [← e, hx]⟩) nd.1
          · rcases List.mem_cons.mp hy with hy | hy
            · exact absurd (List.mem_map.mpr ⟨x, hx, by rw [e, hy]⟩) nd.1
            · exact ih nd.2 hx hy e
      exact inj l.nd hz hm hP
    rw [this]
/-- a def by its row, its function object told -/
theorem row_fnA {U : Nat → Option FD} {n k fuel fn : Nat} {kp : Bool} {b : Ts} {kws : List KwF} {oc : Value} {od : Option Addr} {kV doc pm : Value} {an : Option Addr} {cdv ct : Value} {osl : Array (Option Value)} (lk : K.lookup (He.fAd K d.at_) = some ⟨oc, od, .func (PySem.W.fnOf d.name d.qual d.params d.body d.scope .none kV doc pm an cdv ct), osl⟩) (hcd : PySem.W.codeIn K cdv d.qual = true)
    (e : Env1 P w K mg base (t.bk K) T (phi U n) k gl) (l : LqOk K mg base T tf) (hlq : lq = true → (d.at_, d.qual) ∈ tf)
    (hsc : fnScB N ps d.scope = true) (hpl : ps.length ≤ N.length) (hck : ckSs fuel (rowC t gl lq N d) d.body b = true) (hU : U fn = some (mkFn kp ps.length N.length b)) (hb : BindOk d ps kws) :
    FnOk P w K mg base (L2.CX P w) (k + 4) (He.fAd K d.at_) (PySem.W.fnOf d.name d.qual d.params d.body d.scope .none kV doc pm an cdv ct) ps (spF (t.bk K) T (phi U (n + 1)) fn ps.length) := by
  have Sc := fnSc_of hsc
  refine fn_of (k := k + 3) lk hcd Sc (fun vs H Q E h => by obtain ⟨_, _, _, _, h, _⟩ := h; exact h) fun A outer s H vs Q E hr hsp => ?_
  exact body_fn (c := rowC t gl lq N d) e hU hck rfl hpl rfl rfl Sc (fun _ => rfl) rfl (fun j d h => h) rfl hr (fun h => l.at (hlq h) lk rfl hcd) hsp
/-- a def by its row -/
theorem row_fn {U : Nat → Option FD} {n k fuel fn : Nat} {kp : Bool} {b : Ts} {kws : List KwF} (hF : ∃ fd, FunD K d.name d.qual d.params d.body d.scope [] [] (He.fAd K d.at_) fd) (e : Env1 P w K mg base (t.bk K) T (phi U n) k gl) (l : LqOk K mg base T tf) (hlq : lq = true → (d.at_, d.qual) ∈ tf)
    (hsc : fnScB N ps d.scope = true) (hpl : ps.length ≤ N.length) (hck : ckSs fuel (rowC t gl lq N d) d.body b = true) (hU : U fn = some (mkFn kp ps.length N.length b)) (hb : BindOk d ps kws) :
    ∃ fd, Binds K fd ps [] ∧ FnOk P w K mg base (L2.CX P w) (k + 4) (He.fAd K d.at_) fd ps (spF (t.bk K) T (phi U (n + 1)) fn ps.length) ∧ (∀ xs S, xs.length ≠ ps.length → phi U (n + 1) fn xs S = .no) ∧
      ∀ q ∈ kws, q.perm.length = ps.length ∧ (∀ j ∈ q.perm, j < q.n + q.ks.length) ∧ KBn K fd ps q.n q.ks (permG q.perm) (permG q.perm) := by
  obtain ⟨fd, F⟩ := hF
  obtain ⟨oc, od, dV, kV, doc, pm, an, cdv, ct, osl, rfl, lk, hcd, hD, _⟩ := F.ex
  have hdV : dV = .none := by
    rcases hD with ⟨_, h⟩ | ⟨h, _⟩
    · exact h
    · exact absurd rfl h
  subst hdV
  refine ⟨PySem.W.fnOf d.name d.qual d.params d.body d.scope .none kV doc pm an cdv ct, Binds.all fun us hl => hb.1 _ _ _ _ _ _ us hl, ?_, fun xs S hx => ?_, fun q hq => ?_⟩
  · exact row_fnA lk hcd e l hlq hsc hpl hck hU hb
  · rw [phi, hU]
    show runF _ _ _ _ _ = _
    cases kp <;> (unfold runF mkFn; dsimp only; rw [if_neg hx])
  · obtain ⟨h1, h2, h3⟩ := hb.2 q hq
    exact ⟨h1, h2, ⟨fun s us ws _ l1 l2 => .of_eq (h3 _ _ _ _ _ _ us ws l1 l2), fun r1 r2 => permG_rel r1 r2⟩⟩
/-- an __init__ by its row -/
theorem row_init {U : Nat → Option FD} {n k fuel C : Nat} {b : Ts} {kws : List KwF} (hF : ∃ fd, FunD K d.name d.qual d.params d.body d.scope [] [] (He.fAd K d.at_) fd) (e : Env1 P w K mg base (t.bk K) T (phi U n) k gl) (l : LqOk K mg base T tf) (hlq : lq = true → (d.at_, d.qual) ∈ tf)
    (hsc : fnScB N ps d.scope = true) (hpl : ps.length ≤ N.length) (hck : ckSs fuel (rowC t gl lq N d) d.body b = true) (hU : U C = some (.cls ps.length N.length b)) (hb : BindOkI d ps kws) :
    ∃ fd, Binds K fd ps [] ∧ FnOk P w K mg base (L2.CX P w) (k + 4) (He.fAd K d.at_) fd ps (spI (t.bk K) T (phi U n) N.length b ps.length) ∧ ps.length ≤ N.length ∧ (∀ xs S, phi U (n + 1) C xs S = runF (phi U n) (.cls ps.length N.length b) C xs S) ∧
      ∀ q ∈ kws, q.perm.length + 1 = ps.length ∧ (∀ j ∈ q.perm, j < q.n + q.ks.length) ∧ KBn K fd ps (q.n + 1) q.ks (permG (0 :: q.perm.map (· + 1))) (permG (0 :: q.perm.map (· + 1))) := by
  obtain ⟨fd, F⟩ := hF
  obtain ⟨oc, od, dV, kV, doc, pm, an, cdv, ct, osl, rfl, lk, hcd, hD, _⟩ := F.ex
  have hdV : dV = .none := by
    rcases hD with ⟨_, h⟩ | ⟨h, _⟩
    · exact h
    · exact absurd rfl h
  subst hdV
  have Sc := fnSc_of hsc
  refine ⟨PySem.W.fnOf d.name d.qual d.params d.body d.scope .none kV doc pm an cdv ct, Binds.all fun us hl => hb.1 _ _ _ _ _ _ us hl, ?_, hpl, fun xs S => by rw [phi, hU], fun q hq => ?_⟩
  · refine fn_of (k := k + 3) lk hcd Sc (fun vs H Q E h => by obtain ⟨_, _, _, _, h, _⟩ := h; exact h) fun A outer s H vs Q E hr hsp => ?_
    exact body_init (c := rowC t gl lq N d) e hck rfl hpl rfl rfl Sc (fun _ => rfl) rfl (fun j d h => h) rfl hr (fun h => l.at (hlq h) lk rfl hcd) hsp
  · obtain ⟨h1, h2, h3⟩ := hb.2 q hq
    exact ⟨h1, h2, ⟨fun s us ws _ l1 l2 => .of_eq (h3 _ _ _ _ _ _ us ws l1 l2), fun r1 r2 => permG_rel r1 r2⟩⟩
end
end Sv
end

section
set_option Elab.async false
set_option linter.all false
set_option maxRecDepth 100000
set_option maxHeartbeats 4000000
/-! all defs of a text, at every depth -/
namespace Sv
open PySem PySem.Spec PyProof.Rows L2
/-- one def of the text, checked -/
structure FRow (t : Tabs) (gl : List (Str × G)) (tf : List (He.Defn × Str)) (U : Nat → Option FD) where
  d : He.DefD
  num : Nat
  fuel : Nat
  N : List Str
  ps : List Str
  b : Ts
  kws : List KwF
  lq : Bool
  kp : Bool
  hd : d.dfl = [] ∧ d.kwd = []
  hlq : lq = true → (d.at_, d.qual) ∈ tf
  hsc : fnScB N ps d.scope = true
  hpl : ps.length ≤ N.length
  hck : ckSs fuel (rowC t gl lq N d) d.body b = true
  hU : U num = some (mkFn kp ps.length N.length b)
  hb : BindOk d ps kws
structure IRow (t : Tabs) (gl : List (Str × G)) (tf : List (He.Defn × Str)) (U : Nat → Option FD) where
  x : Str
  d : He.DefD
  num : Nat
  fuel : Nat
  N : List Str
  ps : List Str
  b : Ts
  kws : List KwF
  lq : Bool
  hd : d.dfl = [] ∧ d.kwd = []
  hat : d.at_ = (x, some ("__init__" : Str))
  hlq : lq = true → (d.at_, d.qual) ∈ tf
  hsc : fnScB N ps d.scope = true
  hpl : ps.length ≤ N.length
  hck : ckSs fuel (rowC t gl lq N d) d.body b = true
  hU : U num = some (.cls ps.length N.length b)
  hb : BindOkI d ps kws
/-- the static place of a stored lambda's body -/
def lamC (t : Tabs) (gl : List (Str × G)) (N : List Str) (d : LamD) : SC where
  N := N
  sc := d.scope
  fn := fun _ => true
  gl := gl
  flds := t.flds
  lam := t.lam
  qual := d.qual
  lq := false
  top := false
structure LRow (t : Tabs) (gl : List (Str × G)) (U : Nat → Option FD) where
  num : Nat
  d : LamD
  fuel : Nat
  N : List Str
  ps : List Str
  e : E
  hsc : fnScB N ps d.scope = true
  hpl : ps.length ≤ N.length
  hck : ckE fuel (lamC t gl N d) d.body e = true
  hU : U num = some (.lam ps.length N.length e)
  hb : ∀ (pm cv ctv : Value) (us : List Value), us.length = ps.length → bindArgs (PySem.W.kla_fn "<lambda>" d.qual d.params d.body d.scope [] pm cv ctv) ⟨us, []⟩ = pure (ps.zip us)
/-- the facts that the table of global names asks for -/
def faOf (gl : List (Str × G)) : List He.Fa := gl.flatMap fun p => match p.2 with
  | .fn _ _ => [.glo p.1]
  | .cls _ _ => [.glo p.1, .cls p.1, .mkr p.1]
  | .int i => [.int p.1 i]
  | .exc _ => [.glo p.1, .exc p.1]
  | .caught => [.glo p.1]
  | .bi => [.free p.1]
/-- the text's tables belong together -/
structure Lawd (t : Tabs) (gl : List (Str × G)) (tf : List (He.Defn × Str)) (U : Nat → Option FD) where
  fs : List (FRow t gl tf U)
  is : List (IRow t gl tf U)
  ls : List (LRow t gl U)
  hfn : ∀ x f kws, gl.lookup x = some (.fn f kws) → (x == ("__debug__" : Str)) = false ∧ ∃ r ∈ fs, r.d.at_ = (x, none) ∧ r.num = f ∧ r.kws = kws
  hcl : ∀ x C kws, gl.lookup x = some (.cls C kws) → (x == ("__debug__" : Str)) = false ∧ t.cls.lookup C = some x ∧ ∃ r ∈ is, r.x = x ∧ r.num = C ∧ r.kws = kws
  hex : ∀ x C, gl.lookup x = some (.exc C) → t.exc.lookup C = some x ∧ t.cls.lookup C = none
  heq : ∀ C x, t.cls.lookup C = some x → U (C + 1) = none ∨ ∃ r ∈ fs, r.d.at_ = (x, some ("__eq__" : Str)) ∧ r.num = C + 1 ∧ r.ps.length = 2
  hla : ∀ j d, t.lam.lookup j = some d → ∃ r ∈ ls, r.num = j ∧ r.d = d
/-- what the head tells of the top's objects -/
structure Heads (P : Program) (w : World) (K : PySem.W.Frag) (mg : Str → Option Value) (base : Heap) (t : Tabs) (gl : List (Str × G)) (tf : List (He.Defn × Str)) (T : List (Addr × Str)) {U : Nat → Option FD} (L : Lawd t gl tf U) : Prop where
  fa : ∀ f ∈ faOf gl, f.ok K = true
  hmg : ∀ f : He.Fa, f.ok K = true → (∀ x, f = .glo x → mg x = some (.ref (He.ga K x))) ∧ (∀ x, f = .free x → mg x = none) ∧ ∀ x i, f = .int x i → ∃ u, mg x = some (.int i u)
  fdef : ∀ r ∈ L.fs, ∃ fd, FunD K r.d.name r.d.qual r.d.params r.d.body r.d.scope [] [] (He.fAd K r.d.at_) fd
  idef : ∀ r ∈ L.is, ∃ fd, FunD K r.d.name r.d.qual r.d.params r.d.body r.d.scope [] [] (He.fAd K r.d.at_) fd
  top : topB t K = true
  lq : LqOk K mg base T tf
  eq : ∀ C x, t.cls.lookup C = some x → U (C + 1) = none ∨ (PySem.W.findIn K (.ref (He.ga K x)) "__eq__" = some (some (.ref (He.ma K (He.ga K x) "__eq__"))) ∧ PySem.W.findIn K (.ref (He.ga K x)) "__ne__" = some (some (.builtin "object.__ne__")) ∧ PySem.W.isFn K (.ref (He.ma K (He.ga K x) "__eq__")) = true)
  caught : ∀ x, gl.lookup x = some .caught → CaughtOk P w K mg base (t.bk K) x
section
variable {P : Program} {w : World} {K : PySem.W.Frag} {mg : Str → Option Value} {base : Heap} {t : Tabs} {T : List (Addr × Str)} {gl : List (Str × G)} {tf : List (He.Defn × Str)} {U : Nat → Option FD} {L : Lawd t gl tf U}
theorem fa_mem {x : Str} {g : G} (h : gl.lookup x = some g) : ∀ f ∈ (match g with
    | .fn _ _ => [He.Fa.glo x]
    | .cls _ _ => [.glo x, .cls x, .mkr x]
    | .int i => [.int x i]
    | .exc _ => [.glo x, .exc x]
    | .caught => [.glo x]
    | .bi => [.free x] : List He.Fa), f ∈ faOf gl := fun f hf => by
  have hm : ∀ {l : List (Str × G)}, l.lookup x = some g → (x, g) ∈ l := fun {l} => by
    induction l with
    | nil => intro z; cases z
    | cons p r ih =>
      intro z
      obtain ⟨y, u⟩ := p
      rw [List.lookup_cons] at z
      split at z
      · rename_i e
        cases z
        rw [beq_iff_eq] at e
        rw [e]
        exact List.mem_cons_self
      · exact List.mem_cons_of_mem _ (ih z)
  unfold faOf
  exact List.mem_flatMap.mpr ⟨(x, g), hm h, hf⟩
/-- at depth 0 nothing runs -/
theorem ph0 (f : Nat) (xs : List PV) (S : Store) : phi U 0 f xs S = .no := by rw [phi]
theorem env_rz (Hd : Heads P w K mg base t gl tf T L) (X : Cx) (h1 : X.K = K) (h2 : X.mg = mg) (x : Str) (C : Nat) (h : gl.lookup x = some (.exc C)) (hg : Gl X x) (hdb : (x == ("__debug__" : Str)) = false) :
    ∃ kk, (t.bk K).exc C = some kk ∧ ∀ (z : Str) (j : Nat) (p1 p2 pos' : Pos), PMk X (.Call (.Name x p1) [.Constant (.str z) j p2] [] pos') (fun _ H Q => Q (.ref kk) none H) := by
  obtain ⟨e1, e2⟩ := L.hex x C h
  have f1 := Hd.fa _ (fa_mem h (.glo x) (by simp))
  have f2 := Hd.fa _ (fa_mem h (.exc x) (by simp))
  obtain ⟨q1, q2, q3, q4⟩ := He.exc_ok f2
  have m := (Hd.hmg _ f1).1 x rfl
  subst h1 h2
  refine ⟨He.ga X.K x, by show (t.exc.lookup C).map _ = _; rw [e1]; rfl, fun z j p1 p2 pos' => ?_⟩
  exact L2.pmk_own PySem.F.excBase_ValueError q1 m q2 (raises_own q3 q4) hg hdb
end
end Sv
end

section
set_option Elab.async false
set_option linter.all false
set_option maxRecDepth 100000
set_option maxHeartbeats 4000000
namespace Sv
open PySem PySem.Spec PyProof.Rows L2
section
variable {P : Program} {w : World} {K : PySem.W.Frag} {mg : Str → Option Value} {base : Heap} {t : Tabs} {T : List (Addr × Str)} {gl : List (Str × G)} {tf : List (He.Defn × Str)} {U : Nat → Option FD} {L : Lawd t gl tf U}
theorem spF0 {k a : Nat} {fd : FuncData} {ps : List Str} {f : Nat} : FnOk P w K mg base (L2.CX P w) k a fd ps (spF (t.bk K) T (phi U 0) f ps.length) :=
  ⟨fun vs H Q E h => by obtain ⟨_, _, _, _, h, _⟩ := h; exact h, fun A outer s H args us vs Q E _ _ _ _ h => by obtain ⟨_, _, _, _, _, _, _, h⟩ := h; rw [ph0] at h; exact h.elim⟩
theorem row_fn0 (Hd : Heads P w K mg base t gl tf T L) {r : FRow t gl tf U} (hr : r ∈ L.fs) : ∃ fd, Binds K fd r.ps [] ∧ FnOk P w K mg base (L2.CX P w) 0 (He.fAd K r.d.at_) fd r.ps (spF (t.bk K) T (phi U 0) r.num r.ps.length) ∧ (∀ xs S, xs.length ≠ r.ps.length → phi U 0 r.num xs S = .no) ∧
      ∀ q ∈ r.kws, q.perm.length = r.ps.length ∧ (∀ j ∈ q.perm, j < q.n + q.ks.length) ∧ KBn K fd r.ps q.n q.ks (permG q.perm) (permG q.perm) := by
  obtain ⟨fd, F⟩ := Hd.fdef r hr
  obtain ⟨oc, od, dV, kV, doc, pm, an, cdv, ct, osl, rfl, lk, hcd, hD, _⟩ := F.ex
  have hdV : dV = .none := by
    rcases hD with ⟨_, h⟩ | ⟨h, _⟩
    · exact h
    · exact absurd rfl h
  subst hdV
  refine ⟨PySem.W.fnOf r.d.name r.d.qual r.d.params r.d.body r.d.scope .none kV doc pm an cdv ct, Binds.all fun us hl => r.hb.1 _ _ _ _ _ _ us hl, spF0, fun xs S _ => ph0 _ _ _, fun q hq => ?_⟩
  obtain ⟨h1, h2, h3⟩ := r.hb.2 q hq
  exact ⟨h1, h2, ⟨fun s us ws _ l1 l2 => .of_eq (h3 _ _ _ _ _ _ us ws l1 l2), fun r1 r2 => permG_rel r1 r2⟩⟩
def bNo : Ts := .cons .retN .nil
theorem run_no {Φ : Phi} {np nl f : Nat} {xs : List PV} {S : Store} : runF Φ (.cls np nl bNo) f xs S = .no := by
  unfold runF
  dsimp only
  split
  · unfold bNo
    rw [exs, exT]
    rfl
  · rfl
theorem row_init0 (Hd : Heads P w K mg base t gl tf T L) {r : IRow t gl tf U} (hr : r ∈ L.is) : ∃ fd, Binds K fd r.ps [] ∧ FnOk P w K mg base (L2.CX P w) 0 (He.fAd K r.d.at_) fd r.ps (spI (t.bk K) T (phi U 0) r.N.length bNo r.ps.length) ∧ r.ps.length ≤ r.N.length ∧ (∀ xs S, phi U 0 r.num xs S = runF (phi U 0) (.cls r.ps.length r.N.length bNo) r.num xs S) ∧
      ∀ q ∈ r.kws, q.perm.length + 1 = r.ps.length ∧ (∀ j ∈ q.perm, j < q.n + q.ks.length) ∧ KBn K fd r.ps (q.n + 1) q.ks (permG (0 :: q.perm.map (· + 1))) (permG (0 :: q.perm.map (· + 1))) := by
  obtain ⟨fd, F⟩ := Hd.idef r hr
  obtain ⟨oc, od, dV, kV, doc, pm, an, cdv, ct, osl, rfl, lk, hcd, hD, _⟩ := F.ex
  have hdV : dV = .none := by
    rcases hD with ⟨_, h⟩ | ⟨h, _⟩
    · exact h
    · exact absurd rfl h
  subst hdV
  refine ⟨PySem.W.fnOf r.d.name r.d.qual r.d.params r.d.body r.d.scope .none kV doc pm an cdv ct, Binds.all fun us hl => r.hb.1 _ _ _ _ _ _ us hl, ?_, r.hpl, fun xs S => by rw [ph0, run_no], fun q hq => ?_⟩
  · refine ⟨fun vs H Q E h => by obtain ⟨_, _, _, _, h, _⟩ := h; exact h, fun A outer s H args us vs Q E _ _ _ _ h => ?_⟩
    obtain ⟨_, _, _, _, _, _, _, h⟩ := h
    unfold bNo at h
    rw [exs, exT] at h
    exact h.elim
  · obtain ⟨h1, h2, h3⟩ := r.hb.2 q hq
    exact ⟨h1, h2, ⟨fun s us ws _ l1 l2 => .of_eq (h3 _ _ _ _ _ _ us ws l1 l2), fun r1 r2 => permG_rel r1 r2⟩⟩
theorem cls_some {C : Nat} {c : Addr} (h : (t.bk K).cls C = some c) : ∃ x, t.cls.lookup C = some x ∧ c = He.ga K x := by
  have h : (t.cls.lookup C).map (He.ga K) = some c := h
  cases e : t.cls.lookup C with
  | none => rw [e] at h; cases h
  | some x => rw [e] at h; cases h; exact ⟨x, rfl, rfl⟩
theorem keep_fn {f : Addr} {o : Obj} {fd : FuncData} {oc : Value} {od : Option Addr} {osl : Array (Option Value)} (h : K.lookup f = some ⟨oc, od, .func fd, osl⟩) : PySem.W.keepIn K (.ref f) = true := by
  unfold PySem.W.keepIn
  simp only [h]
/-- from what every def's row gives at a depth to all that a body may lean on -/
theorem env_of (Hd : Heads P w K mg base t gl tf T L) {n k : Nat}
    (fr : ∀ r ∈ L.fs, ∃ fd, Binds K fd r.ps [] ∧ FnOk P w K mg base (L2.CX P w) k (He.fAd K r.d.at_) fd r.ps (spF (t.bk K) T (phi U n) r.num r.ps.length) ∧ (∀ xs S, xs.length ≠ r.ps.length → phi U n r.num xs S = .no) ∧
      ∀ q ∈ r.kws, q.perm.length = r.ps.length ∧ (∀ j ∈ q.perm, j < q.n + q.ks.length) ∧ KBn K fd r.ps q.n q.ks (permG q.perm) (permG q.perm))
    (ir : ∀ r ∈ L.is, ∃ fd Φ' b, Binds K fd r.ps [] ∧ FnOk P w K mg base (L2.CX P w) k (He.fAd K r.d.at_) fd r.ps (spI (t.bk K) T Φ' r.N.length b r.ps.length) ∧ r.ps.length ≤ r.N.length ∧ (∀ xs S, phi U n r.num xs S = runF Φ' (.cls r.ps.length r.N.length b) r.num xs S) ∧
      ∀ q ∈ r.kws, q.perm.length + 1 = r.ps.length ∧ (∀ j ∈ q.perm, j < q.n + q.ks.length) ∧ KBn K fd r.ps (q.n + 1) q.ks (permG (0 :: q.perm.map (· + 1))) (permG (0 :: q.perm.map (· + 1))))
    (lr : ∀ r ∈ L.ls, LamOk P w K mg base (t.bk K) T (phi U n) k r.num r.d r.ps.length) (hno : ∀ f, U f = none → ∀ xs S, phi U n f xs S = .no) : Env1 P w K mg base (t.bk K) T (phi U n) k gl where
  hK := rfl
  ca := clsAll_of Hd.top
  eq := ⟨(nf_of Hd.top).1, (nf_of Hd.top).2, fun C c hc => by
    obtain ⟨x, hx, rfl⟩ := cls_some hc
    rcases L.heq C x hx with h | ⟨r, hr, h1, h2, h3⟩
    · exact .inl (hno _ h)
    · rcases Hd.eq C x hx with h | ⟨g1, g2, g3⟩
      · exact .inl (hno _ h)
      · obtain ⟨fd, b1, b2, _, _⟩ := fr r hr
        rw [h1, h2] at b2
        exact .inr ⟨_, fd, r.ps, g1, g2, g3, b1, h3, b2⟩⟩
  la := fun j d h => by
    obtain ⟨r, hr, h1, h2⟩ := L.hla j d h
    have := lr r hr
    rw [h1, h2] at this
    exact ⟨_, this⟩
  hgl := fun x g h => by
    cases g with
    | fn f kws =>
      obtain ⟨hdb, r, hr, h1, h2, h3⟩ := L.hfn x f kws h
      obtain ⟨fd, b1, b2, b3, b4⟩ := fr r hr
      have f1 := Hd.fa _ (fa_mem h (.glo x) (by simp))
      obtain ⟨fd', F⟩ := Hd.fdef r hr
      have kp := F.kp
      rw [h1] at b2 kp
      rw [h2] at b2 b3
      rw [h3] at b4
      exact ⟨⟨He.ga K x, fd, r.ps, (Hd.hmg _ f1).1 x rfl, kp, b1, b2, b3, b4⟩, hdb⟩
    | cls C kws =>
      obtain ⟨hdb, hc, r, hr, h1, h2, h3⟩ := L.hcl x C kws h
      obtain ⟨fd, Φ', b, b1, b2, b3, b4, b5⟩ := ir r hr
      have f1 := Hd.fa _ (fa_mem h (.glo x) (by simp))
      have f2 := Hd.fa _ (fa_mem h (.mkr x) (by simp))
      have hat := r.hat
      rw [h1] at hat
      rw [hat] at b2
      rw [h2] at b4
      rw [h3] at b5
      exact ⟨⟨He.ga K x, He.ma K (He.ga K x) "__init__", fd, r.ps, Φ', r.N.length, b, (Hd.hmg _ f1).1 x rfl, by show (t.cls.lookup C).map _ = _; rw [hc]; rfl, He.mkr_ok f2, b1, b2, b3, b4, b5⟩, hdb⟩
    | int i =>
      have f1 := Hd.fa _ (fa_mem h (.int x i) (by simp))
      exact (Hd.hmg _ f1).2.2 x i rfl
    | exc C =>
      obtain ⟨e1, e2⟩ := L.hex x C h
      have f1 := Hd.fa _ (fa_mem h (.glo x) (by simp))
      exact ⟨He.ga K x, (Hd.hmg _ f1).1 x rfl, by show (t.exc.lookup C).map _ = _; rw [e1]; rfl, by show (t.cls.lookup C).map _ = _; rw [e2]; rfl⟩
    | caught => exact Hd.caught x h
    | bi =>
      have f1 := Hd.fa _ (fa_mem h (.free x) (by simp))
      exact (Hd.hmg _ f1).2.1 x rfl
  rz := fun X h1 h2 h3 h4 h5 x C h hg hdb => env_rz Hd X h3 h4 x C h hg hdb
theorem env_all (Hd : Heads P w K mg base t gl tf T L) : ∀ n, Env1 P w K mg base (t.bk K) T (phi U n) (4 * n) gl
  | 0 => env_of Hd (fun r hr => row_fn0 Hd hr) (fun r hr => by
      obtain ⟨fd, h⟩ := row_init0 Hd hr
      exact ⟨fd, _, _, h⟩) (fun r hr => ⟨fun xs S _ => ph0 _ _ _, fun A outer s H f c pm ctv us vs Q Z _ _ _ _ _ h => by
        obtain ⟨_, _, _, _, _, _, _, h⟩ := h
        rw [ph0] at h
        exact h.elim⟩) fun f _ xs S => ph0 _ _ _
  | n + 1 => by
    have e := env_all Hd n
    refine env_of Hd (fun r hr => row_fn (Hd.fdef r hr) e Hd.lq r.hlq r.hsc r.hpl r.hck r.hU r.hb) (fun r hr => ?_) (fun r hr => ?_) fun f hf xs S => by rw [phi, hf]
    · obtain ⟨fd, h⟩ := row_init (Hd.idef r hr) e Hd.lq r.hlq r.hsc r.hpl r.hck r.hU r.hb
      exact ⟨fd, _, _, h⟩
    · have := lam_ok (c := lamC t gl r.N r.d) (N := r.N) (ps := r.ps) e r.hU r.hck rfl r.hpl rfl rfl rfl rfl (fnSc_of r.hsc) (fun _ => rfl) rfl (fun j d h => h) rfl rfl r.hb
      exact ⟨this.1, fun A outer s H f c pm ctv us vs Q Z hr' => this.2 A outer s H f c pm ctv us vs Q Z (hr'.mono (by omega))⟩
end
end Sv
end

section
set_option Elab.async false
set_option linter.all false
set_option maxRecDepth 100000
set_option maxHeartbeats 4000000
/-! a law's end -/
namespace Sv
open PySem PySem.Spec PyProof.Rows L2
section
variable {K : PySem.W.Frag} {t : Tabs} {T : List (Addr × Str)} {Φ : Phi}
theorem script_vr {B : Bk} {H : Hp} {a : Addr} {ns : List Int} (h : SqL B.K H a (ns.map V.int)) : VR (B.wx []) [] H (.fz (ns.map .int)) (.ref a) := by
  refine vr_fz.mpr ⟨a, ns.map V.int, rfl, ?_, VRs.of_ints ns⟩
  rcases h with h | h
  · exact .inl ⟨h, by unfold out; simp⟩
  · exact .inr fun H' => .inr h
theorem script_sp {B : Bk} {H : Hp} {a : Addr} {ns : List Int} {f : Nat} {S' : Store} {Z : XK} (hT : LamX.Tabs T H) (h : SqL B.K H a (ns.map V.int)) (e : Φ f [.fz (ns.map .int)] [] = .ok (.bl true) S') : spF B T Φ f 1 [.ref a] H (fun v _ => v = .bl true) Z := by
  refine ⟨[], [], [], [.fz (ns.map .int)], rfl, ⟨rfl, List.nodup_nil, fun i a c e => by simp at e, hT, fun a h => by simp at h, fun a h => by simp at h⟩, .cons (script_vr h) .nil, ?_⟩
  rw [e]
  exact fun b ρ' H' g st r => vr_bl.mp r
end
end Sv
end

section
set_option Elab.async false
set_option linter.all false
set_option maxRecDepth 100000
set_option maxHeartbeats 4000000
/-! a law's end: what the head tells, put together -/
namespace Sv
open PySem PySem.Spec PyProof.Rows L2
section
variable {P : Program} {w : World} {K : PySem.W.Frag} {mg : Str → Option Value} {base : Heap} {B : Bk}
theorem caught_ok {xc a hv er e : Str} {d : He.DefD} {Ng : List Str} {ih ie j : Nat} {p1 p2 p3 p4 p5 p6 p7 p8 p9 p10 p11 p12 p13 p14 : Pos} (F : ∃ fd, FunD K d.name d.qual d.params d.body d.scope [] [] (He.fAd K d.at_) fd) (hat : d.at_ = (xc, none)) (hname : d.name = xc) (hqual : d.qual = xc)
    (hbody : d.body = [.Assign [.Name hv p1] (.Constant .none j p2) p3, .Try [.Expr (.Call (.Name a p4) [] [] p5) p6] [.ExceptHandler (some (.Name e p7)) (some er) [.Assign [.Name hv p8] (.Name er p9) p10] p11] [] [] p12, .Return (some (.Name hv p13)) p14])
    (hm : mg xc = some (.ref (He.ga K xc))) (hme : mg e = some (.ref (He.ga K e))) (hexm : ∀ C k, B.exc C = some k → PySem.W.exmOne K (.ref k) (.ref (He.ga K e)) = some true)
    (hsc : fnScB Ng [a] d.scope = true) (hb : BindOk d [a] []) (hge : glB d.scope e = true) (hh : Ng[ih]? = some hv) (he : Ng[ie]? = some er) (h0 : 0 < ih) (h1 : 0 < ie) (hne : ih ≠ ie) (lh : d.scope.names.lookup hv = some .local) (le : d.scope.names.lookup er = some .local) (hNg : Ng[0]? = some a)
    (hva : visB d.scope a = true) (n1 : okN hv = true) (n2 : okN er = true) (n3 : okN a = true) (n4 : okN e = true) (n5 : okN xc = true) : CaughtOk P w K mg base B xc := by
  obtain ⟨fd, F⟩ := F
  obtain ⟨oc, od, dV, kV, doc, pm, an, cdv, ct, osl, rfl, lk, hcd, hD, _⟩ := F.ex
  have hdV : dV = .none := by
    rcases hD with ⟨_, h⟩ | ⟨h, _⟩
    · exact h
    · exact absurd rfl h
  subst hdV
  have kp := F.kp
  have hb1 := hb.1 kV doc pm an cdv ct
  rw [hat] at lk kp
  rw [hname, hqual, hbody] at lk hb1
  rw [hqual] at hcd
  have Sc := fnSc_of hsc
  refine ⟨⟨a, He.ga K xc, He.ga K e, d.params, _, d.scope, .none, kV, doc, pm, cdv, oc, an, od, osl, ct, Ng, hm, kp, lk, hcd, Binds.all hb1, Sc, hNg, ?_, fun X q x1 x2 x3 x4 x5 => ?_, hexm, (okN1 n3).1, (okN1 n3).2⟩, (okN1 n5).1⟩
  · unfold visB at hva
    simp only [Bool.or_eq_true, decide_eq_true_eq] at hva
    rcases hva with (h | h) | h
    · exact .inl h
    · exact .inr (.inl h)
    · exact .inr (.inr h)
  · subst x3
    exact caught_gives (X := X) (of_decide_eq_true hge) (by rw [x4]; exact hme) (okN1 n4).1 Sc.nd hh he h0 h1 hne lh le (okN1 n1).1 (okN1 n1).2 (okN1 n2).1 (okN1 n2).2
end
end Sv
end

section
set_option Elab.async false
set_option linter.all false
set_option maxRecDepth 100000
set_option maxHeartbeats 2000000
/-! a head over all addresses up to a bound, its run in parts -/
namespace Sv
open PySem PySem.Spec PySem.W PySem.Calls PyProof.Rows L2 He
def obsY (as : List Addr) (fa : List Fa) (fn : List DefD) (tf : List Defn) (ex : PySem.W.Frag → Bool) (g : Addr → Option Obj) : AlX := (obsT fa fn [] (frT g as), ex (frT g as) && tabsB g tf (frT g as))
theorem saysY_of {as : List Addr} {fa : List Fa} {fn : List DefD} {tf : List Defn} {ex : PySem.W.Frag → Bool} {w : World} {h : Heap} (e : obsY as fa fn tf ex h.get? = valX fn [] w) : SaysX fa fn [] tf ex w h (frT h.get? as) := by
  have e1 : obsT fa fn [] (frT h.get? as) = valT fn [] w := congrArg (fun z : AlX => z.1) e
  have e2 : (ex (frT h.get? as) && tabsB h.get? tf (frT h.get? as)) = true := congrArg (fun z : AlX => z.2) e
  obtain ⟨h1, h2⟩ := ba e2
  have key : ∀ p ∈ tf, PySem.W.codeHdIn (frT h.get? as) (cT (frT h.get? as) p).1 (cT (frT h.get? as) p).2 = true ∧ ∃ o, h.get? (cT (frT h.get? as) p).2 = some o ∧ emptyTab o = true := fun p hp => by
    obtain ⟨h3, h4⟩ := ba (List.all_eq_true.mp h2 p hp)
    refine ⟨h3, ?_⟩
    cases q : h.get? (cT (frT h.get? as) p).2 with
    | none =>
      rw [q] at h4
      cases h4
    | some o =>
      rw [q] at h4
      exact ⟨o, rfl, h4⟩
  exact ⟨e1, h1, fun p hp => (key p hp).1, fun p hp => by
    obtain ⟨_, o, q, z⟩ := key p hp
    exact frT_none q z, fun p hp => by
    obtain ⟨_, o, q, z⟩ := key p hp
    rw [q, emptyTab_eq z]⟩
def hookY (as : List Addr) (fa : List Fa) (fn : List DefD) (tf : List Defn) (ex : PySem.W.Frag → Bool) : PySem.W.Hook where
  α := AlX
  obs := fun s => obsY as fa fn tf ex s.heap.get?
  val := fun w => valX fn [] w
  says := fun w h => ∃ K : PySem.W.Frag, K.In h ∧ SaysX fa fn [] tf ex w h K
  of := fun _ _ e => ⟨_, frT_in, saysY_of e⟩
  keeps := fun _ _ _ ⟨K, hK, c⟩ k => ⟨K, PySem.W.Frag.In.keeps hK k, ⟨c.t, c.more, c.hd, c.out, fun p hp => k _ _ (c.empty p hp)⟩⟩
theorem obsY_eq {as : List Addr} {fa : List Fa} {fn : List DefD} {tf : List Defn} {ex : PySem.W.Frag → Bool} {g : Addr → Option Obj} {s : Shared} (h : ∀ a, g a = s.heap.get? a) : obsY as fa fn tf ex g = (hookY as fa fn tf ex).obs s := by
  have e : g = s.heap.get? := funext h
  rw [e] <;> rfl
/-- the state behind the top -/
noncomputable abbrev endS (r : OpenRow) (M : Nat) (w : World) (os : OsState) : Option SharedT := HandSHeadRun.endF (HandSHeadRun.stepQ (HandSHeadRun.denQ HandSHeadRun.tabQ) r.prog w) M r.prog w os
theorem map4 {α β γ δ ε : Type} {o : Option α} {f1 : α → β} {f2 : α → γ} {f3 : α → δ} {f4 : α → ε} {a : β} {b : γ} {c : δ} {d : ε} (h1 : o.map f1 = some a) (h2 : o.map f2 = some b) (h3 : o.map f3 = some c) (h4 : o.map f4 = some d) : o.map (fun s => (f1 s, f2 s, (f3 s, f4 s))) = some (a, b, (c, d)) := by
  cases o with
  | none => cases h1
  | some s =>
    have e1 : f1 s = a := Option.some.inj h1
    have e2 : f2 s = b := Option.some.inj h2
    have e3 : f3 s = c := Option.some.inj h3
    have e4 : f4 s = d := Option.some.inj h4
    show some (f1 s, f2 s, (f3 s, f4 s)) = _
    rw [e1, e2, e3, e4]
def exQ (as : List Addr) (tf : List Defn) (ex : PySem.W.Frag → Bool) (g : Addr → Option Obj) : Bool := ex (frT g as) && tabsB g tf (frT g as)
theorem run_parts {r : OpenRow} {q : Program} {as : List Addr} {fa : List Fa} {fn : List DefD} {tf : List Defn} {ex : PySem.W.Frag → Bool} {M : Nat} {loose : List PySem.Str} {w : World}
    (h1 : ∀ os, (endS r M w os).map (fun s => HandSHeadRun.looksF r.prog (boot_heap w.params) s.abs) = some true)
    (h2 : ∀ os, (endS r M w os).map (fun s => HandSHeadRun.seenQ q loose (importedModules r.prog.main.body) (fun s => xlAt q [] s && recOk r.toRowW.records s) s.abs) = some (openGood q loose))
    (h3 : ∀ os, (endS r M w os).map (fun s => obsT fa fn [] (frT (HandSHeadRun.getT s) as)) = some (valT fn [] w))
    (h4 : ∀ os, (endS r M w os).map (fun s => exQ as tf ex (HandSHeadRun.getT s)) = some true) : HandSHeadRun.RunEq r q (hookY as fa fn tf ex) (fun s => obsY as fa fn tf ex (HandSHeadRun.getT s)) M loose w := fun os => map4 (h1 os) (h2 os) (h3 os) (h4 os)
end Sv
end

section
set_option Elab.async false
set_option linter.all false
set_option maxRecDepth 100000
set_option maxHeartbeats 4000000
/-! a law's end, put together from a text's tables and its head -/
namespace Sv
open PySem PySem.Spec PyProof.Rows L2
instance : DecidableEq KwF := fun a b => decidable_of_iff (a.n = b.n ∧ a.ks = b.ks ∧ a.perm = b.perm) ⟨fun h => by cases a; cases b; obtain ⟨h1, h2, h3⟩ := h; cases h1; cases h2; cases h3; rfl, fun h => by subst h; exact ⟨rfl, rfl, rfl⟩⟩
/-- what a row stands for -/
abbrev RKey : Type := He.Defn × Nat × List KwF
def fkey {t : Tabs} {gl : List (Str × G)} {tf : List (He.Defn × Str)} {U : Nat → Option FD} (r : FRow t gl tf U) : RKey := (r.d.at_, r.num, r.kws)
def ikey {t : Tabs} {gl : List (Str × G)} {tf : List (He.Defn × Str)} {U : Nat → Option FD} (r : IRow t gl tf U) : Str × Nat × List KwF := (r.x, r.num, r.kws)
def glOne (t : Tabs) (fk : List RKey) (ik : List (Str × Nat × List KwF)) (p : Str × G) : Bool := match p.2 with
  | .fn f kws => !(p.1 == ("__debug__" : Str)) && fk.any fun q => decide (q = ((p.1, none), f, kws))
  | .cls C kws => !(p.1 == ("__debug__" : Str)) && decide (t.cls.lookup C = some p.1) && ik.any fun q => decide (q = (p.1, C, kws))
  | .exc C => decide (t.exc.lookup C = some p.1) && decide (t.cls.lookup C = none)
  | _ => true
def eqOne (U : Nat → Option FD) (ek : List (He.Defn × Nat × Nat)) (p : Nat × Str) : Bool := (U (p.1 + 1)).isNone || ek.any fun q => decide (q = ((p.2, some ("__eq__" : Str)), p.1 + 1, 2))
theorem lookup_memS {α : Type} {x : Str} {g : α} : ∀ {l : List (Str × α)}, l.lookup x = some g → (x, g) ∈ l
  | [], z => by cases z
  | p :: r, z => by
    obtain ⟨y, u⟩ := p
    rw [List.lookup_cons] at z
    split at z
    · rename_i e
      cases z
      rw [beq_iff_eq] at e
      rw [e]
      exact List.mem_cons_self
    · exact List.mem_cons_of_mem _ (lookup_memS z)
def lawd_of {t : Tabs} {gl : List (Str × G)} {tf : List (He.Defn × Str)} {U : Nat → Option FD} (fs : List (FRow t gl tf U)) (is : List (IRow t gl tf U)) (ls : List (LRow t gl U))
    (h1 : gl.all (glOne t (fs.map fkey) (is.map ikey)) = true) (h2 : t.cls.all (eqOne U (fs.map fun r => (r.d.at_, r.num, r.ps.length))) = true) (h3 : t.lam = ls.map fun r => (r.num, r.d)) : Lawd t gl tf U where
  fs := fs
  is := is
  ls := ls
  hfn := fun x f kws h => by
    have q := List.all_eq_true.mp h1 _ (lookup_memS h)
    unfold glOne at q
    simp only [Bool.and_eq_true, Bool.not_eq_true', List.any_eq_true, decide_eq_true_eq, List.mem_map] at q
    obtain ⟨q1, k, ⟨r, hr, rfl⟩, hk⟩ := q
    unfold fkey at hk
    simp only [Prod.mk.injEq] at hk
    exact ⟨q1, r, hr, by rw [← hk.1], hk.2.1, hk.2.2⟩
  hcl := fun x C kws h => by
    have q := List.all_eq_true.mp h1 _ (lookup_memS h)
    unfold glOne at q
    simp only [Bool.and_eq_true, Bool.not_eq_true', List.any_eq_true, decide_eq_true_eq, List.mem_map] at q
    obtain ⟨⟨q1, q2⟩, k, ⟨r, hr, rfl⟩, hk⟩ := q
    unfold ikey at hk
    simp only [Prod.mk.injEq] at hk
    exact ⟨q1, q2, r, hr, hk.1, hk.2.1, hk.2.2⟩
  hex := fun x C h => by
    have q := List.all_eq_true.mp h1 _ (lookup_memS h)
    unfold glOne at q
    simp only [Bool.and_eq_true, decide_eq_true_eq] at q
    exact q
  heq := fun C x h => by
    have q := List.all_eq_true.mp h2 _ (lookup_memN h)
    unfold eqOne at q
    simp only [Bool.or_eq_true, Option.isNone_iff_eq_none, List.any_eq_true, decide_eq_true_eq, List.mem_map] at q
    rcases q with q | ⟨k, ⟨r, hr, rfl⟩, hk⟩
    · exact .inl q
    · simp only [Prod.mk.injEq] at hk
      exact .inr ⟨r, hr, hk.1, hk.2.1, hk.2.2⟩
  hla := fun j d h => by
    have q := lookup_memN h
    rw [h3] at q
    obtain ⟨r, hr, e⟩ := List.mem_map.mp q
    simp only [Prod.mk.injEq] at e
    exact ⟨r, hr, e.1, e.2⟩
/-- all that is decided of the top's objects -/
def exB (t : Tabs) (U : Nat → Option FD) (tf : List (He.Defn × Str)) (e : Str) (K : PySem.W.Frag) : Bool :=
  topB t K && t.exc.all (fun p => decide (PySem.W.exmOne K (.ref (He.ga K p.2)) (.ref (He.ga K e)) = some true)) &&
    t.cls.all (fun p => (U (p.1 + 1)).isNone || (He.eqO (PySem.W.findIn K (.ref (He.ga K p.2)) "__eq__") (some (some (.ref (He.ma K (He.ga K p.2) "__eq__")))) && He.eqO (PySem.W.findIn K (.ref (He.ga K p.2)) "__ne__") (some (some (.builtin "object.__ne__"))) && PySem.W.isFn K (.ref (He.ma K (He.ga K p.2) "__eq__")))) &&
    decide (tf.map fun p => (He.cT K p.1).2).Nodup
section
variable {P : Program} {w : World} {K : PySem.W.Frag} {mg : Str → Option Value} {t : Tabs} {gl : List (Str × G)} {tf : List (He.Defn × Str)} {U : Nat → Option FD} {L : Lawd t gl tf U} {fa : List He.Fa} {fn : List He.DefD} {xs : Str}
/-- the tables' names -/
def tabT (K : PySem.W.Frag) (tf : List (He.Defn × Str)) : List (Addr × Str) := tf.map fun p => ((He.cT K p.1).2, p.2 ++ (".<locals>." : Str) ++ ("<lambda>" : Str))
theorem tabs_empty {H : Hp} (h : ∀ p ∈ tf.map (fun p => He.cT K p.1), H p.2 = some (.tbl #[])) : LamX.Tabs (tabT K tf) H := fun p hp => by
  obtain ⟨q, hq, rfl⟩ := List.mem_map.mp hp
  refine ⟨#[], h _ (List.mem_map.mpr ⟨q, hq, rfl⟩), ?_, fun pos cv hc => ?_⟩
  · simp [TriplesOk]
  · simp [codeAmong] at hc
theorem heads_of {base : Heap} {h : Heap} (c : He.SaysX fa fn [] (tf.map (·.1)) (exB t U tf xs) w h K) (KX : K.In h) (G : h.Ns mainGlobals mg) (hfa : ∀ f ∈ faOf gl, f ∈ fa) (hfn : ∀ r ∈ L.fs, r.d ∈ fn) (hin : ∀ r ∈ L.is, r.d ∈ fn)
    (TB : ∀ p ∈ tf.map (fun p => He.cT K p.1), LamX.TabB base mg p.1 p.2) (hcg : ∀ x, gl.lookup x = some .caught → CaughtOk P w K mg base (t.bk K) x) : Heads P w K mg base t gl tf (tabT K tf) L := by
  have cd := c.t.d
  have mo := c.more
  unfold exB at mo
  simp only [Bool.and_eq_true, decide_eq_true_eq] at mo
  obtain ⟨⟨⟨m1, m2⟩, m3⟩, m4⟩ := mo
  refine ⟨fun f hf => cd.facts (hfa f hf), fun f hf => ⟨fun x e => ?_, fun x e => ?_, fun x i e => ?_⟩, fun r hr => ?_, fun r hr => ?_, m1, ⟨fun p hp => TB _ (List.mem_map.mpr ⟨p, hp, rfl⟩), rfl, m4⟩, fun C x hx => ?_, hcg⟩
  · subst e; exact He.glo_ok KX G hf
  · subst e; exact He.free_ok KX G hf
  · subst e; exact He.int_ok KX G hf
  · have q := cd.defs (hfn r hr)
    unfold He.DefD.dvs He.DefD.kws at q
    rw [r.hd.1, r.hd.2] at q
    exact q
  · have q := cd.defs (hin r hr)
    unfold He.DefD.dvs He.DefD.kws at q
    rw [r.hd.1, r.hd.2] at q
    exact q
  · have q := List.all_eq_true.mp m3 _ (lookup_memN hx)
    simp only [Bool.or_eq_true, Option.isNone_iff_eq_none, Bool.and_eq_true] at q
    rcases q with q | ⟨⟨q1, q2⟩, q3⟩
    · exact .inl q
    · exact .inr ⟨He.eqO_ok q1, He.eqO_ok q2, q3⟩
theorem exm_of {C : Nat} {k : Addr} (h : exB t U tf xs K = true) (hk : (t.bk K).exc C = some k) : PySem.W.exmOne K (.ref k) (.ref (He.ga K xs)) = some true := by
  unfold exB at h
  simp only [Bool.and_eq_true, decide_eq_true_eq] at h
  have hk : (t.exc.lookup C).map (He.ga K) = some k := hk
  cases e : t.exc.lookup C with
  | none => rw [e] at hk; cases hk
  | some x =>
    rw [e] at hk; cases hk
    exact of_decide_eq_true (List.all_eq_true.mp h.1.1.2 _ (lookup_memN e))
/-- the law's promise, over the head's heap -/
theorem law_at {l : PySem.W.OpenLaw} {n m : Nat} {x : Str} {fAd : Addr} {h : Heap} (c : He.SaysX fa fn [] (tf.map (·.1)) (exB t U tf xs) w h K) (KX : K.In h) (G : h.Ns mainGlobals mg) (hmg : mg ("law" : Str) = some (.ref fAd)) (hfa : ∀ f ∈ faOf gl, f ∈ fa) (hfn : ∀ r ∈ L.fs, r.d ∈ fn) (hin : ∀ r ∈ L.is, r.d ∈ fn)
    (hcg : ∀ base : Heap, K.In base → ∀ x, gl.lookup x = some .caught → CaughtOk l.prog w K mg base (t.bk K) x)
    {r : FRow t gl tf U} (hr : r ∈ L.fs) (hat : r.d.at_ = (("law" : Str), none)) (hps : r.ps = [x]) (hgl : .glo "law" ∈ fa)
    (plain : ∀ ns : List Int, ns.length ≤ n → (∀ z ∈ ns, Builtin.Int.intBits z ≤ 1048576) → ∃ S', phi U (m + 1) r.num [.fz (ns.map .int)] [] = .ok (.bl true) S') :
    LamX.LawAtS l w K (L2.CX l.prog w) (4 * m + 4) n x mg fAd h := by
  have hlaw := He.glo_ok KX G (c.t.d.facts hgl)
  rw [hmg] at hlaw
  cases hlaw
  have hT : ∀ p ∈ tf.map (fun p => He.cT K p.1), h.get? p.2 = some { cls := .none, data := .fields #[] } := fun p hp => by
    obtain ⟨q, hq, rfl⟩ := List.mem_map.mp hp
    exact c.empty _ (List.mem_map.mpr ⟨q, hq, rfl⟩)
  have hO : ∀ p ∈ tf.map (fun p => He.cT K p.1), K.lookup p.2 = none := fun p hp => by
    obtain ⟨q, hq, rfl⟩ := List.mem_map.mp hp
    exact c.out _ (List.mem_map.mpr ⟨q, hq, rfl⟩)
  have hC : ∀ p ∈ tf.map (fun p => He.cT K p.1), PySem.W.CodeHd h p.1 p.2 := fun p hp => by
    obtain ⟨q, hq, rfl⟩ := List.mem_map.mp hp
    exact PySem.W.codeHd_of_K KX (c.hd _ (List.mem_map.mpr ⟨q, hq, rfl⟩))
  -- the function object is the same over every base
  have cd := c.t.d.defs (hfn r hr)
  unfold He.DefD.dvs He.DefD.kws at cd
  rw [r.hd.1, r.hd.2] at cd
  obtain ⟨fd0, F0⟩ := cd
  obtain ⟨oc, od, dV, kV, doc, pm, an, cdv, ct, osl, rfl, lk, hcd, hD, _⟩ := F0.ex
  have hdV : dV = .none := by
    rcases hD with ⟨_, h⟩ | ⟨h, _⟩
    · exact h
    · exact absurd rfl h
  subst hdV
  have hbind : Binds K (PySem.W.fnOf r.d.name r.d.qual r.d.params r.d.body r.d.scope .none kV doc pm an cdv ct) r.ps [] := Binds.all fun us hl => r.hb.1 _ _ _ _ _ _ us hl
  have hfAd : He.fAd K r.d.at_ = He.ga K "law" := by rw [hat]; rfl
  refine ⟨PySem.W.fnOf r.d.name r.d.qual r.d.params r.d.body r.d.scope .none kV doc pm an cdv ct, tf.map (fun p => He.cT K p.1), spF (t.bk K) (tabT K tf) (phi U (m + 1)) r.num 1, hT, hO, hC, fun s u => ?_, fun H a ns h1 h2 h3 h4 => ?_, fun base hB hG hTB => ?_⟩
  · have := r.hb.1 kV doc pm an cdv ct [u] (by rw [hps]; rfl)
    rw [hps] at this
    exact .of_eq this
  · obtain ⟨S', e⟩ := plain ns h1 h2
    exact script_sp (B := t.bk K) (tabs_empty h3) h4 e
  · have Hd := heads_of (L := L) (P := l.prog) c KX G hfa hfn hin hTB (hcg base hB)
    have z := row_fnA lk hcd (env_all Hd m) Hd.lq r.hlq r.hsc r.hpl r.hck r.hU r.hb
    rw [hps, hfAd] at z
    exact z
end
end Sv
end

section
set_option linter.all false
set_option maxRecDepth 10000
/-! what follows a run: a calculus for the evaluator -/
namespace Sv
open PySem
/-- r gives a value with Q, or lets out an error with E -/
def wp {α : Type} (r : Rs α) (Q : α → Store → Prop) (E : PV → Store → Prop) : Prop := match r with
  | .ok a S => Q a S
  | .ex e S => E e S
  | .no => False
/-- no error -/
abbrev ff : PV → Store → Prop := fun _ _ => False
section
variable {α β : Type} {Q : α → Store → Prop} {E : PV → Store → Prop}
@[simp] theorem wp_ok {a : α} {S : Store} : wp (.ok a S) Q E = Q a S := rfl
@[simp] theorem wp_ex {e : PV} {S : Store} : wp (α := α) (.ex e S) Q E = E e S := rfl
@[simp] theorem wp_no : wp (α := α) .no Q E = False := rfl
@[simp] theorem wp_bind {r : Rs β} {f : β → Store → Rs α} : wp (r.bind f) Q E = wp r (fun a S => wp (f a S) Q E) E := by cases r <;> rfl
theorem wp.mono {r : Rs α} {Q' : α → Store → Prop} {E' : PV → Store → Prop} (h : wp r Q E) (hq : ∀ a S, Q a S → Q' a S) (he : ∀ e S, E e S → E' e S := by intro _ _ h; exact h.elim) : wp r Q' E' := by
  cases r with
  | ok a S => exact hq _ _ h
  | ex e S => exact he _ _ h
  | no => exact h
theorem wp.ok {r : Rs α} (h : wp r Q ff) : ∃ a S, r = .ok a S ∧ Q a S := by
  cases r with
  | ok a S => exact ⟨a, S, rfl, h⟩
  | ex e S => exact h.elim
  | no => exact h.elim
theorem wp.to {r : Rs α} {a : α} {S : Store} (h : wp r (fun b T => b = a ∧ T = S) ff) : r = .ok a S := by
  obtain ⟨b, T, e, rfl, rfl⟩ := h.ok
  exact e
theorem wp.ex_of {r : Rs α} (h : wp r (fun _ _ => False) E) : ∃ e S, r = .ex e S ∧ E e S := by
  cases r with
  | ok a S => exact h.elim
  | ex e S => exact ⟨e, S, rfl, h⟩
  | no => exact h.elim
theorem wp_bif {c : Bool} {a b : Rs α} : wp (bif c then a else b) Q E = if c = true then wp a Q E else wp b Q E := by cases c <;> rfl
theorem wp_ite {c : Prop} [Decidable c] {a b : Rs α} : wp (if c then a else b) Q E = if c then wp a Q E else wp b Q E := by split <;> rfl
end
/-! ### statements, one behind another -/
def wK (p : Fl × Sg) (S : Store) (k : Sg → Prop) (Q : Fl × Sg → Store → Prop) : Prop := match p.1 with
  | .nx => k p.2
  | _ => Q p S
@[simp] theorem wK_nx {σ : Sg} {S : Store} {k : Sg → Prop} {Q : Fl × Sg → Store → Prop} : wK (.nx, σ) S k Q = k σ := rfl
@[simp] theorem wK_rt {v : PV} {σ : Sg} {S : Store} {k : Sg → Prop} {Q : Fl × Sg → Store → Prop} : wK (.rt v, σ) S k Q = Q (.rt v, σ) S := rfl
section
variable {Φ : Phi} {σ : Sg} {S : Store} {Q : Fl × Sg → Store → Prop} {E : PV → Store → Prop}
theorem wp_cons {t : T} {r : Ts} (h : wp (exT Φ t σ S) (fun p S1 => wK p S1 (fun σ1 => wp (exs Φ r σ1 S1) Q E) Q) E) : wp (exs Φ (.cons t r) σ S) Q E := by
  rw [exs_cons, wp_bind]
  refine wp.mono h (fun p S1 q => ?_) fun _ _ q => q
  obtain ⟨f, σ1⟩ := p
  cases f <;> exact q
@[simp] theorem wp_nil : wp (exs Φ .nil σ S) Q E = Q (.nx, σ) S := rfl
theorem wp_last {t : T} (h : wp (exT Φ t σ S) Q E) : wp (exs Φ (.cons t .nil) σ S) Q E := by
  refine wp_cons (wp.mono h (fun p S1 q => ?_) fun _ _ q => q)
  obtain ⟨f, σ1⟩ := p
  cases f <;> exact q
theorem wp_forS {tg : Tg} {it : It} {b : Ts} (h : wp (evi Φ it σ S) (fun w S1 => wp (forGo (stand w.1 S1) (fun v σ S => evg Φ tg v σ S) (fun σ S => exs Φ b σ S) w.2 σ S1) Q E) E) : wp (exT Φ (.for tg it b) σ S) Q E := by
  rw [ex_for, wp_bind]
  exact h
end
/-! ### loops -/
theorem wp_for {g : Store → Prop} {tg : PV → Sg → Store → Rs Sg} {b : Sg → Store → Rs (Fl × Sg)} {Q : Fl × Sg → Store → Prop} {E : PV → Store → Prop} (I : List PV → Sg → Store → Prop) (hg : ∀ xs σ S, I xs σ S → g S)
    (hs : ∀ x xs σ S, I (x :: xs) σ S → wp (tg x σ S) (fun σ1 S1 => wp (b σ1 S1) (fun p S2 => match p.1 with
      | .nx => I xs (mask σ p.2) S2
      | .ct => I xs (mask σ p.2) S2
      | .bk => Q (.nx, mask σ p.2) S2
      | .rt v => Q (.rt v, p.2) S2) E) ff) (hend : ∀ σ S, I [] σ S → Q (.nx, σ) S) :
    ∀ {xs : List PV} {σ : Sg} {S : Store}, I xs σ S → wp (forGo g tg b xs σ S) Q E
  | [], σ, S, h => by
    unfold forGo
    rw [if_pos (hg _ _ _ h)]
    exact hend _ _ h
  | x :: xs, σ, S, h => by
    have q := hs _ _ _ _ h
    unfold forGo
    rw [if_pos (hg _ _ _ h)]
    cases e1 : tg x σ S with
    | ok σ1 S1 =>
      rw [e1] at q
      have q2 : wp (b σ1 S1) _ E := q
      dsimp only
      cases e2 : b σ1 S1 with
      | ok p S2 =>
        rw [e2] at q2
        obtain ⟨f, σ2⟩ := p
        cases f with
        | nx => exact wp_for I hg hs hend q2
        | ct => exact wp_for I hg hs hend q2
        | bk => exact q2
        | rt v => exact q2
      | ex c S2 => rw [e2] at q2; exact q2
      | no => rw [e2] at q2; exact q2
    | ex c S1 => rw [e1] at q; exact q.elim
    | no => rw [e1] at q; exact q.elim
theorem wp_lc {own : List Nat} {σ0 : Sg} {g : Store → Prop} {tg : PV → Sg → Store → Rs Sg} {c : Sg → Store → Rs Bool} {e : Sg → Store → Rs PV} {Q : List PV → Store → Prop} {E : PV → Store → Prop} (I : List PV → List PV → Store → Prop) (hg : ∀ xs acc S, I xs acc S → g S)
    (hs : ∀ x xs acc S, I (x :: xs) acc S → wp (tg x σ0 S) (fun σ1 S1 => wp (c σ1 S1) (fun k S2 => bif k then wp (e σ1 S2) (fun w S3 => I xs (acc ++ [w]) S3) ff else I xs acc S2) ff) ff) (hend : ∀ acc S, I [] acc S → Q acc S) :
    ∀ {xs acc : List PV} {S : Store}, I xs acc S → wp (lcGo own σ0 g tg c e xs acc S) Q E
  | [], acc, S, h => by
    unfold lcGo
    rw [if_pos (hg _ _ _ h)]
    exact hend _ _ h
  | x :: xs, acc, S, h => by
    have q := hs _ _ _ _ h
    unfold lcGo
    rw [if_pos (hg _ _ _ h)]
    cases e1 : tg x σ0 S with
    | ok σ1 S1 =>
      rw [e1] at q
      have q2 : wp (c σ1 S1) _ ff := q
      dsimp only
      cases e2 : c σ1 S1 with
      | ok k S2 =>
        rw [e2] at q2
        cases k with
        | true =>
          have q3 : wp (e σ1 S2) _ ff := q2
          dsimp only
          cases e3 : e σ1 S2 with
          | ok w S3 => rw [e3] at q3; exact wp_lc I hg hs hend q3
          | ex _ _ => rw [e3] at q3; exact q3.elim
          | no => rw [e3] at q3; exact q3.elim
        | false => exact wp_lc I hg hs hend q2
      | ex _ _ => rw [e2] at q2; exact q2.elim
      | no => rw [e2] at q2; exact q2.elim
    | ex _ _ => rw [e1] at q; exact q.elim
    | no => rw [e1] at q; exact q.elim
theorem wp_while {c : Sg → Store → Rs Bool} {b : Sg → Store → Rs (Fl × Sg)} {Q : Fl × Sg → Store → Prop} {E : PV → Store → Prop} (I : Nat → Sg → Store → Prop)
    (hs : ∀ n σ S, I n σ S → wp (c σ S) (fun k S1 => bif k then wp (b σ S1) (fun p S2 => match p.1 with
      | .nx => ∃ m, m < n ∧ I m (mask σ p.2) S2
      | .ct => ∃ m, m < n ∧ I m (mask σ p.2) S2
      | .bk => Q (.nx, mask σ p.2) S2
      | .rt v => Q (.rt v, p.2) S2) E else Q (.nx, σ) S1) E) : ∀ {n : Nat} {σ : Sg} {S : Store}, I n σ S → wp (whl c b σ S) Q E := by
  intro n
  induction n using Nat.strongRecOn with
  | ind n ih =>
    intro σ S h
    have q := hs n σ S h
    rw [whl_eq]
    cases e1 : c σ S with
    | ok k S1 =>
      rw [e1] at q
      cases k with
      | true =>
        have q2 : wp (b σ S1) _ E := q
        dsimp only
        cases e2 : b σ S1 with
        | ok p S2 =>
          rw [e2] at q2
          obtain ⟨f, σ2⟩ := p
          cases f with
          | nx => obtain ⟨m, hm, q2⟩ := q2; exact ih m hm q2
          | ct => obtain ⟨m, hm, q2⟩ := q2; exact ih m hm q2
          | bk => exact q2
          | rt v => exact q2
        | ex c S2 => rw [e2] at q2; exact q2
        | no => rw [e2] at q2; exact q2
      | false => exact q
    | ex c S1 => rw [e1] at q; exact q
    | no => rw [e1] at q; exact q
/-! ### defs -/
section
variable {U : Nat → Option FD}
/-- a def's run, behind it: what it gives is frozen -/
def wOut (S : Store) (Q : PV → Store → Prop) (p : Fl × Sg) (S' : Store) : Prop := match p.1 with
  | .rt v => wp (leave S.length S S' v) Q ff
  | .nx => wp (leave S.length S S' .non) Q ff
  | _ => False
def wErr (S : Store) (E : PV → Store → Prop) (e : PV) (S' : Store) : Prop := old S.length S S' ∧ lf e = true ∧ E e (S'.take S.length)
theorem wp_fn {n f np nl : Nat} {b : Ts} {vs : List PV} {S : Store} {Q : PV → Store → Prop} {E : PV → Store → Prop} (h : U f = some (.fn np nl b)) (hl : vs.length = np) (hq : wp (exs (phi U n) b (startS nl vs) S) (wOut S Q) (wErr S E)) : wp (phi U (n + 1) f vs S) Q E := by
  rw [phi_succ h]
  unfold runF
  dsimp only
  rw [if_pos hl]
  cases e : exs (phi U n) b (startS nl vs) S with
  | ok p S' =>
    rw [e] at hq
    obtain ⟨fl, σ⟩ := p
    cases fl with
    | rt v => exact wp.mono hq (fun _ _ h => h)
    | nx => exact wp.mono hq (fun _ _ h => h)
    | bk => exact hq.elim
    | ct => exact hq.elim
  | ex c S' =>
    rw [e] at hq
    obtain ⟨h1, h2, h3⟩ := hq
    show wp (open Classical in if old S.length S S' ∧ lf c = true then Rs.ex c (S'.take S.length) else .no) Q E
    rw [if_pos ⟨h1, h2⟩]
    exact h3
  | no => rw [e] at hq; exact hq
theorem wp_lam {n f np nl : Nat} {b : E} {vs : List PV} {S : Store} {Q : PV → Store → Prop} {E : PV → Store → Prop} (h : U f = some (.lam np nl b)) (hl : vs.length = np) (hq : wp (ev (phi U n) b (startS nl vs) S) (fun v S' => wp (leave S.length S S' v) Q ff) (wErr S E)) : wp (phi U (n + 1) f vs S) Q E := by
  rw [phi_succ h]
  unfold runF
  dsimp only
  rw [if_pos hl]
  cases e : ev (phi U n) b (startS nl vs) S with
  | ok v S' =>
    rw [e] at hq
    exact wp.mono hq (fun _ _ h => h)
  | ex c S' =>
    rw [e] at hq
    obtain ⟨h1, h2, h3⟩ := hq
    show wp (open Classical in if old S.length S S' ∧ lf c = true then Rs.ex c (S'.take S.length) else .no) Q E
    rw [if_pos ⟨h1, h2⟩]
    exact h3
  | no => rw [e] at hq; exact hq
theorem wp_cls {n f np nl : Nat} {b : Ts} {vs : List PV} {S : Store} {Q : PV → Store → Prop} {E : PV → Store → Prop} (h : U f = some (.cls np nl b)) (hl : vs.length + 1 = np) (hq : wp (exs (phi U n) b (startS nl (.loc S.length :: vs)) (S ++ [.ins f []])) (fun p S' => p.1 = .nx ∧ wp (leave S.length S S' (.loc S.length)) Q ff) (wErr S E)) : wp (phi U (n + 1) f vs S) Q E := by
  rw [phi_succ h]
  unfold runF
  dsimp only
  rw [if_pos hl]
  cases e : exs (phi U n) b (startS nl (.loc S.length :: vs)) (S ++ [.ins f []]) with
  | ok p S' =>
    rw [e] at hq
    obtain ⟨fl, σ⟩ := p
    obtain ⟨h1, h2⟩ := hq
    dsimp only at h1
    subst h1
    exact wp.mono h2 (fun _ _ h => h)
  | ex c S' =>
    rw [e] at hq
    obtain ⟨h1, h2, h3⟩ := hq
    show wp (open Classical in if old S.length S S' ∧ lf c = true then Rs.ex c (S'.take S.length) else .no) Q E
    rw [if_pos ⟨h1, h2⟩]
    exact h3
  | no => rw [e] at hq; exact hq
theorem wp_fnk {n f np nl : Nat} {b : Ts} {vs : List PV} {S : Store} {Q : PV → Store → Prop} {E : PV → Store → Prop} (h : U f = some (.fnk np nl b)) (hl : vs.length = np) (hq : wp (exs (phi U n) b (startS nl vs) S) (fun p S' => match p.1 with
    | .rt v => Q v S'
    | .nx => Q .non S'
    | _ => False) E) : wp (phi U (n + 1) f vs S) Q E := by
  rw [phi_succ h]
  unfold runF
  dsimp only
  rw [if_pos hl]
  cases e : exs (phi U n) b (startS nl vs) S with
  | ok p S' =>
    rw [e] at hq
    obtain ⟨fl, σ⟩ := p
    cases fl with
    | rt v => exact hq
    | nx => exact hq
    | bk => exact hq.elim
    | ct => exact hq.elim
  | ex c S' => rw [e] at hq; exact hq
  | no => rw [e] at hq; exact hq
end
@[simp] theorem wp_catch {r : Rs PV} {Q : PV → Store → Prop} {E : PV → Store → Prop} : wp (catchV r) Q E = wp r (fun _ S => Q .non S) Q := by cases r <;> rfl
end Sv
end

section
set_option linter.all false
set_option maxRecDepth 10000
/-! the laws' draws -/
namespace Sv
open PySem
/-- _law_begun: 0 _law_script, 1 _law_large, 2 _law_cell -/
def b_L_begun : Ts := (.cons (.set (.x 1) (.lc true [2] (.x 2) (.e (.x 0)) (.some (.v (.cmp .ge (.bi .abs (.x 2)) (.bin .pow false (.ki 10) (.ki 18))))) (.bin .sub false (.bi .abs (.x 2)) (.bin .pow false (.ki 10) (.ki 18))))) (.cons (.ret (.dct [.s "large", .s "cells", .s "rest", .s "turn"] (.cons (.x 1) (.cons (.lc false [2] (.x 2) (.e (.x 0)) .none (.bi .abs (.x 2))) (.cons (.ki 0) (.cons (.ki 0) .nil)))))) .nil))
def d_L_begun : FD := .fnk 1 3 b_L_begun
class K_L_begun (U : Nat → Option FD) : Prop where
  h244 : U 244 = some d_L_begun
/-- _law_blend: 0 _law_draw, 1 _law_turn, 2 _law_found, 3 _law_prime, 4 _law_mixed, 5 _law_cell -/
def b_L_blend : Ts := (.cons (.par [1, 2] (.cons (.bin .add false (.dgs (.x 0) "turn") (.ki 1)) (.cons (.ki 0) .nil))) (.cons (.setDk (.x 0) "turn" (.x 1)) (.cons (.for (.x 3) (.e (.lst false (.cons (.ki 2147483629) (.cons (.ki 2147483587) (.cons (.ki 2147483579) .nil))))) (.cons (.set (.x 4) (.bin .mod false (.bi .int (.bin .add false (.bin .mul false (.x 1) (.ki 69621)) (.bin .fdiv false (.x 3) (.ki 7)))) (.x 3))) (.cons (.for (.x 5) (.e (.dgs (.x 0) "cells")) (.cons (.set (.x 4) (.bin .mod false (.bi .int (.bin .add false (.bin .add false (.bin .mul false (.x 4) (.ki 48271)) (.bi .int (.x 5))) (.ki 1))) (.x 3))) .nil)) (.cons (.set (.x 2) (.bin .add false (.bin .mul false (.x 2) (.ki 2147483647)) (.bin .mod false (.bi .int (.bin .pow false (.x 4) (.ki 5))) (.x 3)))) .nil)))) (.cons (.ret (.x 2)) .nil))))
def d_L_blend : FD := .fn 1 6 b_L_blend
class K_L_blend (U : Nat → Option FD) : Prop where
  h245 : U 245 = some d_L_blend
/-- _law_take: 0 _law_draw, 1 _law_size, 2 _law_found -/
def b_L_take : Ts := (.cons (.while (.and (.v (.cmp .eq (.dgs (.x 0) "rest") (.ki 0))) (.v (.cmp .ne (.dgs (.x 0) "large") (.lst false .nil)))) (.cons (.setDk (.x 0) "rest" (.popi (.dgs (.x 0) "large") (.ki 0))) .nil)) (.cons (.ifs (.v (.cmp .eq (.dgs (.x 0) "rest") (.ki 0))) (.cons (.setDk (.x 0) "rest" (.call 245 (.cons (.x 0) .nil))) .nil) .nil) (.cons (.set (.x 2) (.bin .mod false (.bi .int (.dgs (.x 0) "rest")) (.x 1))) (.cons (.setDk (.x 0) "rest" (.bin .fdiv false (.bi .int (.dgs (.x 0) "rest")) (.x 1))) (.cons (.ret (.x 2)) .nil)))))
def d_L_take : FD := .fn 2 3 b_L_take
class K_L_take (U : Nat → Option FD) : Prop extends K_L_blend U where
  h246 : U 246 = some d_L_take
/-- _law_pick: 0 _law_draw, 1 _law_some -/
def b_L_pick : Ts := (.cons (.ret (.idx (.x 1) (.call 246 (.cons (.x 0) (.cons (.bi .len (.x 1)) .nil))))) .nil)
def d_L_pick : FD := .fn 2 2 b_L_pick
class K_L_pick (U : Nat → Option FD) : Prop extends K_L_take U where
  h247 : U 247 = some d_L_pick
/-- what a draw holds -/
structure Dw where
  large : List Int
  cells : List Int
  rest : Int
  turn : Int
def dKv (d : Dw) : List (DK × PV) := [(.s "large", .loc 0), (.s "cells", .lst (d.cells.map .int)), (.s "rest", .int d.rest), (.s "turn", .int d.turn)]
/-- the store: the draw, then all else -/
def dS (d : Dw) (R : Store) : Store := .lst (d.large.map .int) :: .dct (dKv d) :: R
/-- sizes; m turns are left -/
structure Dok (m : Nat) (d : Dw) : Prop where
  large : ∀ c ∈ d.large, 0 ≤ c ∧ c.natAbs.log2 < 2000000
  cells : ∀ c ∈ d.cells, 0 ≤ c ∧ c.natAbs.log2 < 2000000
  rest : 0 ≤ d.rest
  turn : 0 ≤ d.turn ∧ d.turn + m ≤ 1000000000000
theorem Dok.mono {m k : Nat} {d : Dw} (h : Dok m d) (hk : k ≤ m) : Dok k d := ⟨h.large, h.cells, h.rest, h.turn.1, by have := h.turn.2; omega⟩
section
variable {d d' : Dw} {R R' G : Store} {i : Nat} {c : Cl}
@[simp] theorem dS_at : (dS d R)[i + 2]? = R[i]? := rfl
@[simp] theorem dS_0 : (dS d R)[0]? = some (.lst (d.large.map .int)) := rfl
@[simp] theorem dS_1 : (dS d R)[1]? = some (.dct (dKv d)) := rfl
@[simp] theorem dS_len : (dS d R).length = R.length + 2 := rfl
@[simp] theorem dS_app : dS d R ++ G = dS d (R ++ G) := rfl
@[simp] theorem dS_set : (dS d R).set (i + 2) c = dS d (R.set i c) := rfl
@[simp] theorem dS_set0 {xs : List Int} : (dS d R).set 0 (.lst (xs.map .int)) = dS { d with large := xs } R := rfl
@[simp] theorem dS_take : (dS d R).take (i + 2) = dS d (R.take i) := rfl
@[simp] theorem dg_large  : dgsV (.loc 1) "large" (dS d R) = .ok (.loc 0) (dS d R) := by simp [dgsV, dKv, dkget]
@[simp] theorem dg_cells  : dgsV (.loc 1) "cells" (dS d R) = .ok (.lst (d.cells.map .int)) (dS d R) := by simp [dgsV, dKv, dkget]
@[simp] theorem dg_rest  : dgsV (.loc 1) "rest" (dS d R) = .ok (.int d.rest) (dS d R) := by simp [dgsV, dKv, dkget]
@[simp] theorem dg_turn  : dgsV (.loc 1) "turn" (dS d R) = .ok (.int d.turn) (dS d R) := by simp [dgsV, dKv, dkget]
@[simp] theorem dp_rest {r : Int} : setDk (.loc 1) "rest" (.int r) (dS d R) = some (dS { d with rest := r } R) := by
  simp [setDk, dkput, dKv]
  rfl
@[simp] theorem dp_turn {r : Int} : setDk (.loc 1) "turn" (.int r) (dS d R) = some (dS { d with turn := r } R) := by
  simp [setDk, dkput, dKv]
  rfl
theorem old_dS {G : Store} : old (R.length + 2) (dS d R) (dS d' (R ++ G)) := by
  refine ⟨by simp, fun i c hi h => ?_⟩
  match i with
  | 0 =>
    right
    simp at h
    subst h
    show lbs _ _ = true
    exact (by
      generalize d'.large = l
      induction l with
      | nil => rfl
      | cons a l ih => simpa [lbs, lb] using ih)
  | 1 =>
    right
    simp at h
    subst h
    show lbs _ _ = true
    have : lbs (R.length + 2) (d'.cells.map PV.int) = true := by
      generalize d'.cells = l
      induction l with
      | nil => rfl
      | cons a l ih => simpa [lbs, lb] using ih
    simp [dKv, lbs, lb, this]
  | i + 2 =>
    left
    rw [dS_at] at h ⊢
    rw [List.getElem?_append_left (by omega)] at h
    exact h
/-- a def's end, over a draw -/
theorem leave_dS {G : Store} {v w : PV} (hv : frz (dS d' (R ++ G)) (R.length + 2) 8 v = some w) : leave (R.length + 2) (dS d R) (dS d' (R ++ G)) v = .ok w (dS d' R) := by
  rw [leave_of old_dS hv]
  simp
@[simp] theorem leave_dS0 {v : PV} (hv : lf v = true) : leave (R.length + 2) (dS d R) (dS d' R) v = .ok v (dS d' R) := by
  have := leave_dS (d := d) (d' := d') (R := R) (G := []) (v := v) (w := v) (frz_lf hv)
  simpa using this
theorem wp_leave {Q : PV → Store → Prop} {v w : PV} (hp : R <+: R') (hv : frz (dS d' R') (R.length + 2) 8 v = some w) (hq : Q w (dS d' R)) : wp (leave (dS d R).length (dS d R) (dS d' R') v) Q ff := by
  obtain ⟨G, rfl⟩ := hp
  rw [dS_len, leave_dS hv]
  exact hq
end
theorem stand_lf {gs : List PV} (S S' : Store) (h : lfs gs = true) : stand gs S S' := fun i hi => by
  have := lfs_mem h hi
  simp at this
section
variable {U : Nat → Option FD} {n m : Nat} {d : Dw} {R : Store}
def primes : List Int := [2147483629, 2147483587, 2147483579]
theorem mulOk_of {i j : Int} {a b : Nat} (hi : i.natAbs < 2 ^ a) (hj : j.natAbs < 2 ^ b) (h : a + b ≤ 100000000) (h0 : 0 < a := by decide) (h1 : 0 < b := by decide) : mulOk i j := by
  have key : ∀ {x k : Nat}, x < 2 ^ k → 0 < k → x.log2 < k := fun {x k} hx hk => by
    by_cases h0 : x = 0
    · subst h0; simpa using hk
    · exact (Nat.log2_lt h0).mpr hx
  have := key hi h0
  have := key hj h1
  show _ + _ < _
  omega
theorem pow_int {m} {i j : Int} {S : Store} (h : 0 ≤ j ∧ j ≤ 1000 ∧ i.natAbs < 2 ^ 64) : binop .pow m (.int i) (.int j) S = .ok (.int (i ^ j.toNat)) S := if_pos h
theorem fdiv_lit {m} {i j : Int} {S : Store} (h : 0 < j) (h2 : j < 18446744073709551616) : binop .fdiv m (.int i) (.int j) S = .ok (.int (i.fdiv j)) S := fdiv_int (by omega) (.inl (by
  have : (18446744073709551616 : Nat) ≤ divLine := by
    unfold divLine
    calc (18446744073709551616 : Nat) = 2 ^ 64 := by decide
      _ ≤ 2 ^ 9000 := Nat.pow_le_pow_right (by decide) (by decide)
  omega))
theorem fmod_pos {i p : Int} (h : 0 < p) : 0 ≤ i.fmod p ∧ i.fmod p < p := ⟨Int.fmod_nonneg_of_pos i h, Int.fmod_lt_of_pos i h⟩
theorem blend_spec [K_L_blend U] (h : Dok (m + 1) d) : wp (phi U (n + 1) 245 [.loc 1] (dS d R)) (fun v S => ∃ r : Int, v = .int r ∧ 0 ≤ r ∧ S = dS { d with turn := d.turn + 1 } R) ff := by
  refine wp_fn K_L_blend.h245 rfl ?_
  unfold b_L_blend
  refine wp_cons ?_
  simp [startS]
  refine wp_cons ?_
  simp
  refine wp_cons (wp_forS ?_)
  simp only [evi_e, ev_lst, evs_cons, evs_nil, ev_ki, bind_ok', List.length_cons, List.length_nil, line, mkL_false, items_lst, itV_some, wp_ok]
  have ht := h.turn
  refine wp_for (fun xs σ S => ∃ found : Int, σ = [some (.loc 1), some (.int (d.turn + 1)), some (.int found), none, none, none] ∧ S = dS { d with turn := d.turn + 1 } R ∧ 0 ≤ found ∧ (found + 1) * 4294967296 ^ xs.length ≤ 4294967296 ^ 3 ∧ ∀ x ∈ xs, ∃ p : Int, x = .int p ∧ 2 < p ∧ p < 2147483648) ?_ ?_ ?_ ?_
  · rintro xs σ S ⟨_, _, rfl, _⟩
    exact stand_lf _ _ (by simp)
  · rintro x xs σ S ⟨found, rfl, rfl, h0, h1, h2⟩
    obtain ⟨p, rfl, hp0, hp1⟩ := h2 x List.mem_cons_self
    have hb : found < 2 ^ 96 := by
      have : (0 : Int) < 4294967296 ^ (PV.int p :: xs).length := Int.pow_pos (by decide)
      have : found + 1 ≤ (found + 1) * 4294967296 ^ (PV.int p :: xs).length := by
        have := Int.mul_le_mul_of_nonneg_left (show (1 : Int) ≤ 4294967296 ^ (PV.int p :: xs).length by omega) (show 0 ≤ found + 1 by omega)
        omega
      have e : (4294967296 : Int) ^ 3 = 2 ^ 96 := by decide
      omega
    simp only [evg_x, setS_succ, setS_zero, wp_ok]
    refine wp_cons ?_
    have m1 : mulOk (d.turn + 1) 69621 := mulOk_of (a := 41) (b := 17) (by omega) (by decide) (by decide)
    have hpn : p ≠ 0 := by omega
    simp [mul_int m1, fdiv_lit, mod_int hpn]
    have hm0 := fmod_pos (i := (d.turn + 1) * 69621 + Int.fdiv p 7) (p := p) (by omega)
    revert hm0
    generalize Int.fmod ((d.turn + 1) * 69621 + Int.fdiv p 7) p = mx
    intro hm0
    refine wp_cons (wp_forS ?_)
    simp
    refine wp_for (fun xs' σ S => ∃ mx : Int, σ = [some (.loc 1), some (.int (d.turn + 1)), some (.int found), some (.int p), some (.int mx), none] ∧ S = dS { d with turn := d.turn + 1 } R ∧ (0 ≤ mx ∧ mx < p) ∧ ∀ x ∈ xs', ∃ c : Int, x = .int c) ?_ ?_ ?_ ?_
    · rintro xs σ S ⟨_, _, rfl, _⟩
      exact stand_lf _ _ (by simp)
    · rintro x xs' σ S ⟨mx, rfl, rfl, h3, h4⟩
      obtain ⟨c, rfl⟩ := h4 x List.mem_cons_self
      simp only [evg_x, setS_succ, setS_zero, wp_ok]
      refine wp_cons ?_
      have m2 : mulOk mx 48271 := mulOk_of (a := 31) (b := 17) (by omega) (by decide) (by decide)
      simp [mul_int m2, mod_int hpn]
      refine ⟨fmod_pos (by omega), fun x hx => h4 x (List.mem_cons_of_mem _ hx)⟩
    · rintro σ S ⟨mx, rfl, rfl, h3, _⟩
      simp
      refine wp_cons ?_
      have m3 : mulOk found 2147483647 := mulOk_of (a := 96) (b := 31) (by omega) (by decide) (by decide)
      simp [mul_int m3, mod_int hpn, pow_int (show (0 : Int) ≤ 5 ∧ (5 : Int) ≤ 1000 ∧ mx.natAbs < 2 ^ 64 by omega)]
      have hr := fmod_pos (i := mx ^ 5) (p := p) (by omega)
      refine ⟨by omega, ?_, fun x hx => h2 x (List.mem_cons_of_mem _ hx)⟩
      rw [List.length_cons, Int.pow_succ] at h1
      refine Int.le_trans ?_ h1
      rw [Int.mul_comm (4294967296 ^ _), ← Int.mul_assoc]
      exact Int.mul_le_mul_of_nonneg_right (by omega) (Int.le_of_lt (Int.pow_pos (by decide)))
    · exact ⟨mx, rfl, rfl, hm0, fun x hx => by simp at hx; obtain ⟨c, _, rfl⟩ := hx; exact ⟨c, rfl⟩⟩
  · rintro σ S ⟨found, rfl, rfl, h0, _⟩
    simp
    refine wp_last ?_
    simp [wOut, h0]
  · exact ⟨0, rfl, rfl, by decide, by decide, fun x hx => by simp at hx; rcases hx with rfl | rfl | rfl <;> exact ⟨_, rfl, by decide, by decide⟩⟩
/-! ### small facts -/
theorem bi_len_of {x : PV} {S : Store} {xs : List PV} (h : items x S = some xs) : bi1 .len x S = .ok (.int xs.length) S := by simp [bi1, h]
theorem index_of {x : PV} {S : Store} {xs : List PV} {k : Int} {v : PV} (h : items x S = some xs) (hv : atI xs k = some v) : index x (.int k) S = .ok v S := by simp [index, h, hv]
theorem atI_nat {α : Type} {xs : List α} {k : Nat} {v : α} (h : xs[k]? = some v) : atI xs (k : Int) = some v := by
  obtain ⟨hk, rfl⟩ := List.getElem?_eq_some_iff.mp h
  simp [atI, ixN, hk]
theorem atI_int {α : Type} {xs : List α} {k : Int} (h0 : 0 ≤ k) (h1 : k < xs.length) : ∃ v, atI xs k = some v ∧ v ∈ xs ∧ xs[k.toNat]? = some v := by
  have h2 : k.toNat < xs.length := by omega
  refine ⟨xs[k.toNat], ?_, List.getElem_mem _, List.getElem?_eq_getElem h2⟩
  have := atI_nat (List.getElem?_eq_getElem h2)
  rwa [Int.toNat_of_nonneg h0] at this
theorem isIns_deref {x : PV} {S : Store} {xs : List PV} (h : deref x S = .lst xs) : ∀ C fs, x ≠ .ins C fs := by
  rintro C fs rfl
  simp [deref] at h
theorem eqv_of {Φ : Phi} {x y : PV} {S : Store} {k : Bool → Store → Rs PV} (hn : ∀ C fs, x ≠ .ins C fs) (h1 : isD 16 (deref x S) = true) (h2 : isD 16 (deref y S) = true) : eqv Φ x y S k = k (peq (deref x S) (deref y S)) S := by
  unfold eqv
  split
  · rename_i C fs
    exact absurd rfl (hn C fs)
  · rw [if_pos ⟨h1, h2⟩]
theorem eq_D {Φ : Phi} {x y : PV} {S : Store} (hn : ∀ C fs, x ≠ .ins C fs) (h1 : isD 16 (deref x S) = true) (h2 : isD 16 (deref y S) = true) : cmpop Φ .eq x y S = .ok (.bl (peq (deref x S) (deref y S))) S := eqv_of hn h1 h2
theorem ne_D {Φ : Phi} {x y : PV} {S : Store} (hn : ∀ C fs, x ≠ .ins C fs) (h1 : isD 16 (deref x S) = true) (h2 : isD 16 (deref y S) = true) : cmpop Φ .ne x y S = .ok (.bl (!peq (deref x S) (deref y S))) S := eqv_of hn h1 h2
/-- a list is asked whether it is empty -/
theorem eqv_nil {Φ : Phi} {x : PV} {S : Store} {xs : List PV} {k : Bool → Store → Rs PV} (h : deref x S = .lst xs) : eqv Φ x (.lst []) S k = k xs.isEmpty S := by
  have hn := isIns_deref h
  unfold eqv
  split
  · rename_i C fs
    exact absurd rfl (hn C fs)
  · rw [h]
    have e : deref (.lst []) S = .lst [] := rfl
    rw [e]
    cases xs with
    | nil => rfl
    | cons a l =>
      split
      · rfl
      · simp
theorem eq_nil {Φ : Phi} {x : PV} {S : Store} {xs : List PV} (h : deref x S = .lst xs) : cmpop Φ .eq x (.lst []) S = .ok (.bl xs.isEmpty) S := eqv_nil h
theorem ne_nil {Φ : Phi} {x : PV} {S : Store} {xs : List PV} (h : deref x S = .lst xs) : cmpop Φ .ne x (.lst []) S = .ok (.bl (!xs.isEmpty)) S := eqv_nil h
@[simp] theorem deref_lst_ {xs : List PV} {S : Store} : deref (.lst xs) S = .lst xs := rfl
theorem deref_loc {i : Nat} {S : Store} {xs : List PV} (h : S[i]? = some (.lst xs)) : deref (.loc i) S = .lst xs := by simp [deref, h]
@[simp] theorem eq_nil_lst {Φ : Phi} {xs : List PV} {S : Store} : cmpop Φ .eq (.lst xs) (.lst []) S = .ok (.bl xs.isEmpty) S := eq_nil rfl
@[simp] theorem ne_nil_lst {Φ : Phi} {xs : List PV} {S : Store} : cmpop Φ .ne (.lst xs) (.lst []) S = .ok (.bl (!xs.isEmpty)) S := ne_nil rfl
/-! ### a draw -/
theorem pop_large {a : Int} {l : List Int} (h : d.large = a :: l) : popAt (.loc 0) (some 0) (dS d R) = .ok (.int a) (dS { d with large := l } R) := by
  obtain ⟨large, cells, rest, turn⟩ := d
  dsimp only at h
  subst h
  simp [popAt, ixN]
theorem take_spec [K_L_take U] (h : Dok (m + 1) d) {k : Int} (hk : 0 < k) (hk2 : k < 18446744073709551616) : wp (phi U (n + 2) 246 [.loc 1, .int k] (dS d R)) (fun v S => ∃ (r : Int) (d' : Dw), v = .int r ∧ 0 ≤ r ∧ r < k ∧ S = dS d' R ∧ Dok m d') ff := by
  refine wp_fn K_L_take.h246 rfl ?_
  unfold b_L_take
  refine wp_cons ?_
  rw [ex_while]
  refine wp_while (fun j σ S => ∃ d', σ = [some (.loc 1), some (.int k), none] ∧ S = dS d' R ∧ Dok (m + 1) d' ∧ d'.large.length = j) ?_ (n := d.large.length) ⟨d, rfl, rfl, h, rfl⟩
  rintro j σ S ⟨d', rfl, rfl, hd, hj⟩
  have hl : deref (.loc 0) (dS d' R) = .lst (d'.large.map .int) := deref_loc rfl
  simp [ne_nil hl, wp_bif]
  by_cases h0 : d'.rest = 0
  · simp [h0, ne_nil hl]
    cases hd2 : d'.large with
    | cons a l =>
      have hl2 : isLst (.loc 0) (dS d' R) = true := by simp [isLst, hl]
      simp [hd2]
      refine wp_last ?_
      simp [hl2, pop_large hd2]
      refine ⟨l.length, by rw [← hj, hd2]; simp, _, rfl, ⟨?_, hd.cells, (hd.large a (by rw [hd2]; exact List.mem_cons_self)).1, hd.turn⟩, rfl⟩
      intro c hc
      exact hd.large c (by rw [hd2]; exact List.mem_cons_of_mem _ hc)
    | nil =>
      simp
      refine wp_cons ?_
      simp [h0]
      refine wp_last ?_
      simp
      refine wp.mono (blend_spec hd) ?_
      rintro _ _ ⟨r, rfl, hr, rfl⟩
      simp
      refine wp_cons ?_
      simp [mod_int (show k ≠ 0 by omega)]
      refine wp_cons ?_
      simp [fdiv_lit hk hk2]
      refine wp_last ?_
      simp [wOut]
      refine ⟨(fmod_pos hk).1, (fmod_pos hk).2, _, rfl, ⟨hd.large, hd.cells, Int.fdiv_nonneg hr (by omega), by have := hd.turn.1; dsimp only; omega, by have := hd.turn.2; dsimp only; omega⟩⟩
  · simp [h0]
    refine wp_cons ?_
    simp [h0]
    refine wp_cons ?_
    simp [mod_int (show k ≠ 0 by omega)]
    refine wp_cons ?_
    simp [fdiv_lit hk hk2]
    refine wp_last ?_
    simp [wOut]
    refine ⟨(fmod_pos hk).1, (fmod_pos hk).2, _, rfl, ⟨hd.large, hd.cells, Int.fdiv_nonneg hd.rest (by omega), hd.turn.1, by have := hd.turn.2; dsimp only; omega⟩⟩
theorem pick_spec [K_L_pick U] (h : Dok (m + 1) d) {x : PV} {xs : List PV} (hx : ∀ d', items x (dS d' R) = some xs) (hn : xs ≠ []) (hl : xs.length ≤ 100000) (hlf : ∀ v ∈ xs, ∀ d', frz (dS d' R) (R.length + 2) 8 v = some v) : wp (phi U (n + 3) 247 [.loc 1, x] (dS d R)) (fun v S => v ∈ xs ∧ ∃ d', S = dS d' R ∧ Dok m d') ff := by
  refine wp_fn K_L_pick.h247 rfl ?_
  unfold b_L_pick
  refine wp_last ?_
  simp [startS, bi_len_of (hx d)]
  have h1 : (0 : Int) < xs.length := by
    cases xs with
    | nil => exact absurd rfl hn
    | cons a l => rw [List.length_cons]; omega
  refine wp.mono (take_spec h h1 (by omega)) ?_
  rintro _ _ ⟨r, d', rfl, hr0, hr1, rfl, hd⟩
  obtain ⟨v, hv, hm, _⟩ := atI_int hr0 hr1
  simp [index_of (hx d') hv]
  exact wp_leave (List.prefix_refl R) (hlf v hm d') ⟨hm, d', rfl, hd⟩
/-- a choice out of a written list of plain values -/
theorem pick_lf [K_L_pick U] (h : Dok (m + 1) d) {xs : List PV} (hlf : lfs xs = true) (hn : xs ≠ [] := by simp) (hl : xs.length ≤ 100000 := by simp) : wp (phi U (n + 3) 247 [.loc 1, .lst xs] (dS d R)) (fun v S => v ∈ xs ∧ ∃ d', S = dS d' R ∧ Dok m d') ff :=
  pick_spec h (fun _ => rfl) hn hl fun v hv d' => frz_lf (lfs_mem hlf hv)
theorem begun_spec [K_L_begun U] {ns : List Int} (hl : ns.length ≤ 63) (hb : ∀ z ∈ ns, z.natAbs.log2 < 1500000) : wp (phi U (n + 1) 244 [.fz (ns.map .int)] []) (fun v S => ∃ d, v = .loc 1 ∧ S = dS d [] ∧ Dok 1000000000000 d) ff := by
  refine wp_fnk K_L_begun.h244 rfl ?_
  unfold b_L_begun
  refine wp_cons ?_
  simp only [startS, ex_set, ev_lc, evi_e, ev_x, List.map_cons, List.map_nil, List.length_cons, List.length_nil, List.cons_append, List.nil_append, getS_zero, ofO_some, bind_ok', items_fz, itV_some, wp_bind]
  rw [lenG_of (by simp [line]; omega), wp_bind]
  refine wp_lc (fun xs acc S => S = [] ∧ (∃ l : List Int, acc = l.map .int ∧ ∀ c ∈ l, 0 ≤ c ∧ c.natAbs.log2 < 2000000) ∧ ∀ x ∈ xs, ∃ z : Int, x = .int z ∧ z.natAbs.log2 < 1500000) ?_ ?_ ?_ ?_
  · rintro xs acc S ⟨rfl, _⟩
    exact stand_self _ _
  · rintro x xs acc S ⟨rfl, ⟨l, rfl, hla⟩, hx⟩
    obtain ⟨z, rfl, hz⟩ := hx x List.mem_cons_self
    have hr : ∀ x ∈ xs, ∃ z : Int, x = .int z ∧ z.natAbs.log2 < 1500000 := fun x h => hx x (List.mem_cons_of_mem _ h)
    simp [pow_int (show (0 : Int) ≤ 18 ∧ (18 : Int) ≤ 1000 ∧ (10 : Int).natAbs < 2 ^ 64 by decide), wp_bif]
    split
    · rename_i hge
      refine ⟨⟨l ++ [(z.natAbs : Int) - 1000000000000000000], by simp, fun c hc => ?_⟩, hr⟩
      rcases List.mem_append.mp hc with hc | hc
      · exact hla c hc
      · simp at hc
        subst hc
        refine ⟨by omega, ?_⟩
        have h2 : ((z.natAbs : Int) - 1000000000000000000).natAbs ≤ z.natAbs := by omega
        by_cases h0 : ((z.natAbs : Int) - 1000000000000000000).natAbs = 0
        · rw [h0]; decide
        · have h3 : z.natAbs ≠ 0 := by omega
          exact (Nat.log2_lt h0).mpr (Nat.lt_of_le_of_lt h2 ((Nat.log2_lt h3).mp (by omega)))
    · exact ⟨⟨l, rfl, hla⟩, hr⟩
  · rintro acc S ⟨rfl, ⟨l, rfl, hla⟩, _⟩
    simp
    refine wp_last ?_
    simp only [ex_ret, ev_dct, evs_cons, evs_nil, ev_x, getS_succ, getS_zero, ofO_some, bind_ok', ev_lc, evi_e, items_fz, itV_some, wp_bind]
    rw [lenG_of (by simp [line]; omega)]
    simp only [wp_bind, wp_ok]
    refine wp_lc (fun xs acc S => S = [.lst (l.map .int)] ∧ (∃ l : List Int, acc = l.map .int ∧ ∀ c ∈ l, 0 ≤ c ∧ c.natAbs.log2 < 2000000) ∧ ∀ x ∈ xs, ∃ z : Int, x = .int z ∧ z.natAbs.log2 < 1500000) ?_ ?_ ?_ ?_
    · rintro xs acc S ⟨rfl, _⟩
      exact stand_lf _ _ (by simp)
    · rintro x xs acc S ⟨rfl, ⟨l', rfl, hla'⟩, hx⟩
      obtain ⟨z, rfl, hz⟩ := hx x List.mem_cons_self
      have hr : ∀ x ∈ xs, ∃ z : Int, x = .int z ∧ z.natAbs.log2 < 1500000 := fun x h => hx x (List.mem_cons_of_mem _ h)
      simp
      refine ⟨⟨l' ++ [(z.natAbs : Int)], by simp, fun c hc => ?_⟩, hr⟩
      rcases List.mem_append.mp hc with hc | hc
      · exact hla' c hc
      · simp at hc
        subst hc
        exact ⟨by omega, by rw [Int.natAbs_natCast]; omega⟩
    · rintro acc S ⟨rfl, ⟨l', rfl, hla'⟩, _⟩
      simp [dkmerge, dkput]
      exact ⟨⟨l, l', 0, 0⟩, rfl, ⟨hla, hla', Int.le_refl _, Int.le_refl _, by simp⟩⟩
    · exact ⟨rfl, ⟨[], rfl, fun c h => by cases h⟩, fun x hx => by simp at hx; obtain ⟨z, hz, rfl⟩ := hx; exact ⟨z, rfl, hb z hz⟩⟩
  · exact ⟨rfl, ⟨[], rfl, fun c h => by cases h⟩, fun x hx => by simp at hx; obtain ⟨z, hz, rfl⟩ := hx; exact ⟨z, rfl, hb z hz⟩⟩
end
end Sv
end

section
set_option linter.all false
set_option maxRecDepth 10000
/-! numbers, rows, divisors -/
namespace Sv
open PySem
/-- is_number: 0 thing -/
def b_is_number : Ts := (.cons (.ret (.and (.isi (.x 0) [.int]) (.not (.isi (.x 0) [.bool])))) .nil)
def d_is_number : FD := .fn 1 1 b_is_number
class K_is_number (U : Nat → Option FD) : Prop where
  h201 : U 201 = some d_is_number
/-- is_between: 0 thing, 1 low, 2 high -/
def b_is_between : Ts := (.cons (.ret (.and (.call 201 (.cons (.x 0) .nil)) (.chn .le .le (.x 1) (.x 0) (.x 2)))) .nil)
def d_is_between : FD := .fn 3 3 b_is_between
class K_is_between (U : Nat → Option FD) : Prop extends K_is_number U where
  h202 : U 202 = some d_is_between
/-- is_list: 0 thing -/
def b_is_list : Ts := (.cons (.ret (.isi (.x 0) [.list, .tuple])) .nil)
def d_is_list : FD := .fn 1 1 b_is_list
class K_is_list (U : Nat → Option FD) : Prop where
  h203 : U 203 = some d_is_list
/-- is_row: 0 thing, 1 many, 2 item -/
def b_is_row : Ts := (.cons (.ret (.and (.isi (.x 0) [.tuple]) (.and (.cmp .eq (.bi .len (.x 0)) (.x 1)) (.bi .all (.lc false [2] (.x 2) (.e (.x 0)) .none (.call 201 (.cons (.x 2) .nil))))))) .nil)
def d_is_row : FD := .fn 2 3 b_is_row
class K_is_row (U : Nat → Option FD) : Prop extends K_is_number U where
  h204 : U 204 = some d_is_row
/-- is_count_row: 0 thing, 1 many, 2 item -/
def b_is_count_row : Ts := (.cons (.ret (.and (.call 204 (.cons (.x 0) (.cons (.x 1) .nil))) (.bi .all (.lc false [2] (.x 2) (.e (.x 0)) .none (.cmp .ge (.x 2) (.ki 0)))))) .nil)
def d_is_count_row : FD := .fn 2 3 b_is_count_row
class K_is_count_row (U : Nat → Option FD) : Prop extends K_is_row U where
  h205 : U 205 = some d_is_count_row
/-- divisor_of: 0 numbers, 1 found, 2 number, 3 here, 4 there -/
def b_divisor_of : Ts := (.cons (.set (.x 1) (.ki 0)) (.cons (.for (.x 2) (.e (.x 0)) (.cons (.par [3, 4] (.cons (.x 1) (.cons (.bi .abs (.x 2)) .nil))) (.cons (.while (.v (.cmp .ne (.x 4) (.ki 0))) (.cons (.par [3, 4] (.cons (.x 4) (.cons (.bin .mod false (.x 3) (.x 4)) .nil))) .nil)) (.cons (.set (.x 1) (.x 3)) .nil)))) (.cons (.ret (.x 1)) .nil)))
def d_divisor_of : FD := .fn 1 5 b_divisor_of
class K_divisor_of (U : Nat → Option FD) : Prop where
  h206 : U 206 = some d_divisor_of
/-- least_pair: 0 scale, 1 numbers, 2 found, 3 item -/
def b_least_pair : Ts := (.cons (.set (.x 2) (.call 206 (.cons (.tup (.cons (.x 0) (.star (.x 1) .nil))) .nil))) (.cons (.ret (.tup (.cons (.bin .fdiv false (.x 0) (.x 2)) (.cons (.bi .tuple (.lc false [3] (.x 3) (.e (.x 1)) .none (.bin .fdiv false (.x 3) (.x 2)))) .nil)))) .nil))
def d_least_pair : FD := .fn 2 4 b_least_pair
class K_least_pair (U : Nat → Option FD) : Prop extends K_divisor_of U where
  h208 : U 208 = some d_least_pair
/-- is_index: 0 thing, 1 many -/
def b_is_index : Ts := (.cons (.ret (.call 202 (.cons (.x 0) (.cons (.ki 0) (.cons (.bin .sub false (.x 1) (.ki 1)) .nil))))) .nil)
def d_is_index : FD := .fn 2 2 b_is_index
class K_is_index (U : Nat → Option FD) : Prop extends K_is_between U where
  h210 : U 210 = some d_is_index
/-- is_chance_row: 0 many, 1 thing -/
def b_is_chance_row : Ts := (.cons (.ifs (.or (.not (.v (.isi (.x 1) [.tuple]))) (.or (.v (.cmp .ne (.bi .len (.x 1)) (.ki 2))) (.or (.not (.v (.call 201 (.cons (.idx (.x 1) (.ki 0)) .nil)))) (.v (.cmp .lt (.idx (.x 1) (.ki 0)) (.ki 1)))))) (.cons (.ret (.kb false)) .nil) .nil) (.cons (.ret (.and (.call 205 (.cons (.idx (.x 1) (.ki 1)) (.cons (.x 0) .nil))) (.cmp .le (.bi .sum (.idx (.x 1) (.ki 1))) (.idx (.x 1) (.ki 0))))) .nil))
def d_is_chance_row : FD := .fn 2 2 b_is_chance_row
class K_is_chance_row (U : Nat → Option FD) : Prop extends K_is_count_row U, K_is_number U where
  h223 : U 223 = some d_is_chance_row
/-- _law_divisor: 0 _law_numbers, 1 _law_found, 2 _law_number, 3 _law_here, 4 _law_there -/
def b_L_divisor : Ts := (.cons (.set (.x 1) (.ki 0)) (.cons (.for (.x 2) (.e (.x 0)) (.cons (.par [3, 4] (.cons (.x 1) (.cons (.bi .abs (.x 2)) .nil))) (.cons (.while (.v (.cmp .ne (.x 4) (.ki 0))) (.cons (.par [3, 4] (.cons (.x 4) (.cons (.bin .mod false (.bi .int (.x 3)) (.bi .int (.x 4))) .nil))) .nil)) (.cons (.set (.x 1) (.x 3)) .nil)))) (.cons (.ret (.x 1)) .nil)))
def d_L_divisor : FD := .fn 1 5 b_L_divisor
class K_L_divisor (U : Nat → Option FD) : Prop where
  h250 : U 250 = some d_L_divisor
/-- _law_pair: 0 _law_scale, 1 _law_numbers_here, 2 _law_found, 3 _law_item -/
def b_L_pair : Ts := (.cons (.set (.x 2) (.call 250 (.cons (.bin .add false (.lst false (.cons (.x 0) .nil)) (.bl .list false (.x 1))) .nil))) (.cons (.ret (.tup (.cons (.bin .fdiv false (.x 0) (.x 2)) (.cons (.bi .tuple (.lc false [3] (.x 3) (.e (.x 1)) .none (.bin .fdiv false (.x 3) (.x 2)))) .nil)))) .nil))
def d_L_pair : FD := .fn 2 4 b_L_pair
class K_L_pair (U : Nat → Option FD) : Prop extends K_L_divisor U where
  h257 : U 257 = some d_L_pair
/-- _law_some_many: 0 _law_draw, 1 _law_bound, 2 _law_k -/
def b_L_some_many : Ts := (.cons (.ret (.call 247 (.cons (.x 0) (.cons (.lc false [2] (.x 2) (.e (.lst false (.cons (.ki 1) (.cons (.ki 2) (.cons (.ki 2) (.cons (.ki 3) (.cons (.ki 3) (.cons (.ki 3) (.cons (.ki 4) (.cons (.ki 4) (.cons (.ki 5) (.cons (.ki 6) (.cons (.ki 8) .nil))))))))))))) (.some (.v (.cmp .le (.x 2) (.x 1)))) (.x 2)) .nil)))) .nil)
def d_L_some_many : FD := .fn 2 3 b_L_some_many
class K_L_some_many (U : Nat → Option FD) : Prop extends K_L_pick U where
  h258 : U 258 = some d_L_some_many
mutual
/-- plain data: nothing that may change, no def in it -/
def pl : PV → Bool
  | .tup xs => pls xs
  | .lst xs => pls xs
  | .fz xs => pls xs
  | .ins _ fs => pls fs
  | .exc _ fs => pls fs
  | .loc _ => false
  | .clo _ => false
  | _ => true
def pls : List PV → Bool
  | [] => true
  | x :: xs => pl x && pls xs
end
@[simp] theorem pl_non : pl .non = true := (rfl)
@[simp] theorem pl_bl (b : Bool) : pl (.bl b) = true := (rfl)
@[simp] theorem pl_int (i : Int) : pl (.int i) = true := (rfl)
@[simp] theorem pl_str (s : Str) : pl (.str s) = true := (rfl)
@[simp] theorem pl_dic : pl .dic = true := (rfl)
@[simp] theorem pl_tup (xs : List PV) : pl (.tup xs) = pls xs := (rfl)
@[simp] theorem pl_lst (xs : List PV) : pl (.lst xs) = pls xs := (rfl)
@[simp] theorem pl_fz (xs : List PV) : pl (.fz xs) = pls xs := (rfl)
@[simp] theorem pl_ins (C : Nat) (xs : List PV) : pl (.ins C xs) = pls xs := (rfl)
@[simp] theorem pl_exc (C : Nat) (xs : List PV) : pl (.exc C xs) = pls xs := (rfl)
@[simp] theorem pl_clo (k : Nat) : pl (.clo k) = false := (rfl)
@[simp] theorem pl_loc (k : Nat) : pl (.loc k) = false := (rfl)
theorem pls_all : ∀ xs : List PV, pls xs = xs.all pl
  | [] => rfl
  | x :: xs => by show (pl x && pls xs) = _; rw [pls_all xs]; rfl
@[simp] theorem pls_nil : pls [] = true := (rfl)
@[simp] theorem pls_cons (x : PV) (xs : List PV) : pls (x :: xs) = (pl x && pls xs) := (rfl)
@[simp] theorem pls_append (xs ys : List PV) : pls (xs ++ ys) = (pls xs && pls ys) := by simp [pls_all]
theorem pls_mem {xs : List PV} {x : PV} (h : pls xs = true) (hx : x ∈ xs) : pl x = true := by rw [pls_all] at h; exact List.all_eq_true.mp h x hx
theorem pls_of {xs : List PV} (h : ∀ x ∈ xs, pl x = true) : pls xs = true := by rw [pls_all]; exact List.all_eq_true.mpr h
@[simp] theorem pls_map {α : Type} {f : α → PV} (h : ∀ a, pl (f a) = true) (l : List α) : pls (l.map f) = true := by simp [pls_all, h]
@[simp] theorem pls_ints (l : List Int) : pls (l.map PV.int) = true := pls_map (fun _ => rfl) l
mutual
theorem pl_lf : ∀ {x : PV}, pl x = true → lf x = true
  | .non, _ => rfl
  | .bl _, _ => rfl
  | .int _, _ => rfl
  | .str _, _ => rfl
  | .dic, _ => rfl
  | .clo _, h => by cases h
  | .tup xs, h => pls_lfs (xs := xs) h
  | .lst xs, h => pls_lfs (xs := xs) h
  | .fz xs, h => pls_lfs (xs := xs) h
  | .ins C xs, h => pls_lfs (xs := xs) h
  | .exc C xs, h => pls_lfs (xs := xs) h
  | .loc i, h => by cases h
theorem pls_lfs : ∀ {xs : List PV}, pls xs = true → lfs xs = true
  | [], _ => rfl
  | x :: xs, h => by
    obtain ⟨h1, h2⟩ := Bool.and_eq_true_iff.mp h
    exact Bool.and_eq_true_iff.mpr ⟨pl_lf h1, pls_lfs h2⟩
end
/-! ### what the tests say -/
def isNum : PV → Bool
  | .int _ => true
  | _ => false
def betw (lo hi : Int) : PV → Bool
  | .int i => decide (lo ≤ i) && decide (i ≤ hi)
  | _ => false
def isSeq : PV → Bool
  | .lst _ => true
  | .fz _ => true
  | .tup _ => true
  | _ => false
def isTup : PV → Bool
  | .tup _ => true
  | _ => false
def nonneg : PV → Bool
  | .int i => decide (0 ≤ i)
  | _ => false
def rowB (many : Int) : PV → Bool
  | .tup xs => decide ((xs.length : Int) = many) && xs.all isNum
  | _ => false
def cntB (many : Int) : PV → Bool
  | .tup xs => decide ((xs.length : Int) = many) && xs.all nonneg
  | _ => false
def sumI (xs : List PV) : Int := match intsOf xs with
  | some l => l.sum
  | none => 0
def sumV : PV → Int
  | .tup xs => sumI xs
  | _ => 0
/-- a chance row -/
def crowB (many : Int) : PV → Bool
  | .tup [a, b] => (match a with
    | .int t => decide (1 ≤ t) && (cntB many b && decide (sumV b ≤ t))
    | _ => false)
  | _ => false
theorem crowB_len {many : Int} {xs : List PV} (h : ¬ (xs.length : Int) = 2) : crowB many (.tup xs) = false := by
  unfold crowB
  split
  · rename_i e
    cases e
    exact absurd rfl h
  · rfl
@[simp] theorem isTs_cons {x : PV} {S : Store} {t : Ty} {ts : List Ty} : isTs x S (t :: ts) = match isT x S t, isTs x S ts with
  | some a, some b => some (a || b)
  | _, _ => none := (rfl)
@[simp] theorem isTs_nil {x : PV} {S : Store} : isTs x S [] = some false := (rfl)
theorem isT_int {x : PV} {S : Store} (h : pl x = true) : isT x S .int = some (isNum x || match x with | .bl _ => true | _ => false) := by
  cases x <;> first | rfl | simp at h
theorem isT_bool {x : PV} {S : Store} (h : pl x = true) : isT x S .bool = some (match x with | .bl _ => true | _ => false) := by
  cases x <;> first | rfl | simp at h
@[simp] theorem isT_tup {x : PV} {S : Store} (h : pl x = true) : isT x S .tuple = some (isTup x) := by
  cases x <;> first | rfl | simp at h
@[simp] theorem isT_list {x : PV} {S : Store} (h : pl x = true) : isT x S .list = some (isSeq x && !isTup x) := by
  cases x <;> first | rfl | simp at h
@[simp] theorem isT_int_non {S : Store} : isT .non S .int = some false := (rfl)
@[simp] theorem isT_int_bl {b : Bool} {S : Store} : isT (.bl b) S .int = some true := (rfl)
@[simp] theorem isT_int_int {i : Int} {S : Store} : isT (.int i) S .int = some true := (rfl)
@[simp] theorem isT_int_str {z : Str} {S : Store} : isT (.str z) S .int = some false := (rfl)
@[simp] theorem isT_int_tup {xs : List PV} {S : Store} : isT (.tup xs) S .int = some false := (rfl)
@[simp] theorem isT_int_lst {xs : List PV} {S : Store} : isT (.lst xs) S .int = some false := (rfl)
@[simp] theorem isT_int_fz {xs : List PV} {S : Store} : isT (.fz xs) S .int = some false := (rfl)
@[simp] theorem isT_int_ins {C : Nat} {xs : List PV} {S : Store} : isT (.ins C xs) S .int = some false := (rfl)
@[simp] theorem isT_int_exc {C : Nat} {xs : List PV} {S : Store} : isT (.exc C xs) S .int = some false := (rfl)
@[simp] theorem isT_int_dic {S : Store} : isT .dic S .int = some false := (rfl)
@[simp] theorem isT_bool_non {S : Store} : isT .non S .bool = some false := (rfl)
@[simp] theorem isT_bool_bl {b : Bool} {S : Store} : isT (.bl b) S .bool = some true := (rfl)
@[simp] theorem isT_bool_int {i : Int} {S : Store} : isT (.int i) S .bool = some false := (rfl)
@[simp] theorem isT_bool_str {z : Str} {S : Store} : isT (.str z) S .bool = some false := (rfl)
@[simp] theorem isT_bool_tup {xs : List PV} {S : Store} : isT (.tup xs) S .bool = some false := (rfl)
@[simp] theorem isT_bool_lst {xs : List PV} {S : Store} : isT (.lst xs) S .bool = some false := (rfl)
@[simp] theorem isT_bool_fz {xs : List PV} {S : Store} : isT (.fz xs) S .bool = some false := (rfl)
@[simp] theorem isT_bool_ins {C : Nat} {xs : List PV} {S : Store} : isT (.ins C xs) S .bool = some false := (rfl)
@[simp] theorem isT_bool_exc {C : Nat} {xs : List PV} {S : Store} : isT (.exc C xs) S .bool = some false := (rfl)
@[simp] theorem isT_bool_dic {S : Store} : isT .dic S .bool = some false := (rfl)
@[simp] theorem isT_tuple_non {S : Store} : isT .non S .tuple = some false := (rfl)
@[simp] theorem isT_tuple_bl {b : Bool} {S : Store} : isT (.bl b) S .tuple = some false := (rfl)
@[simp] theorem isT_tuple_int {i : Int} {S : Store} : isT (.int i) S .tuple = some false := (rfl)
@[simp] theorem isT_tuple_str {z : Str} {S : Store} : isT (.str z) S .tuple = some false := (rfl)
@[simp] theorem isT_tuple_tup {xs : List PV} {S : Store} : isT (.tup xs) S .tuple = some true := (rfl)
@[simp] theorem isT_tuple_lst {xs : List PV} {S : Store} : isT (.lst xs) S .tuple = some false := (rfl)
@[simp] theorem isT_tuple_fz {xs : List PV} {S : Store} : isT (.fz xs) S .tuple = some false := (rfl)
@[simp] theorem isT_tuple_ins {C : Nat} {xs : List PV} {S : Store} : isT (.ins C xs) S .tuple = some false := (rfl)
@[simp] theorem isT_tuple_exc {C : Nat} {xs : List PV} {S : Store} : isT (.exc C xs) S .tuple = some false := (rfl)
@[simp] theorem isT_tuple_dic {S : Store} : isT .dic S .tuple = some false := (rfl)
@[simp] theorem isT_list_non {S : Store} : isT .non S .list = some false := (rfl)
@[simp] theorem isT_list_bl {b : Bool} {S : Store} : isT (.bl b) S .list = some false := (rfl)
@[simp] theorem isT_list_int {i : Int} {S : Store} : isT (.int i) S .list = some false := (rfl)
@[simp] theorem isT_list_str {z : Str} {S : Store} : isT (.str z) S .list = some false := (rfl)
@[simp] theorem isT_list_tup {xs : List PV} {S : Store} : isT (.tup xs) S .list = some false := (rfl)
@[simp] theorem isT_list_lst {xs : List PV} {S : Store} : isT (.lst xs) S .list = some true := (rfl)
@[simp] theorem isT_list_fz {xs : List PV} {S : Store} : isT (.fz xs) S .list = some true := (rfl)
@[simp] theorem isT_list_ins {C : Nat} {xs : List PV} {S : Store} : isT (.ins C xs) S .list = some false := (rfl)
@[simp] theorem isT_list_exc {C : Nat} {xs : List PV} {S : Store} : isT (.exc C xs) S .list = some false := (rfl)
@[simp] theorem isT_list_dic {S : Store} : isT .dic S .list = some false := (rfl)
@[simp] theorem isT_cls_non {D : Nat} {S : Store} : isT .non S (.cls D) = some false := (rfl)
@[simp] theorem isT_cls_bl {D : Nat} {b : Bool} {S : Store} : isT (.bl b) S (.cls D) = some false := (rfl)
@[simp] theorem isT_cls_int {D : Nat} {i : Int} {S : Store} : isT (.int i) S (.cls D) = some false := (rfl)
@[simp] theorem isT_cls_str {D : Nat} {z : Str} {S : Store} : isT (.str z) S (.cls D) = some false := (rfl)
@[simp] theorem isT_cls_tup {D : Nat} {xs : List PV} {S : Store} : isT (.tup xs) S (.cls D) = some false := (rfl)
@[simp] theorem isT_cls_lst {D : Nat} {xs : List PV} {S : Store} : isT (.lst xs) S (.cls D) = some false := (rfl)
@[simp] theorem isT_cls_fz {D : Nat} {xs : List PV} {S : Store} : isT (.fz xs) S (.cls D) = some false := (rfl)
@[simp] theorem isT_cls_dic {D : Nat} {S : Store} : isT .dic S (.cls D) = some false := (rfl)
@[simp] theorem isT_cls_ins {D C : Nat} {xs : List PV} {S : Store} : isT (.ins C xs) S (.cls D) = some (C == D) := (rfl)
@[simp] theorem isT_cls_exc {D C : Nat} {xs : List PV} {S : Store} : isT (.exc C xs) S (.cls D) = some (D == 0 || C == D) := (rfl)
section
variable {U : Nat → Option FD} {n m : Nat} {S : Store}
@[simp] theorem is_number_spec [K_is_number U] {v : PV} (hv : pl v = true) : phi U (n + 1) 201 [v] S = .ok (.bl (isNum v)) S := by
  refine wp.to (wp_fn K_is_number.h201 rfl ?_)
  unfold b_is_number
  refine wp_last ?_
  simp [startS, isT_int hv, isT_bool hv]
  cases v <;> simp [isNum, wOut] at hv ⊢
@[simp] theorem is_between_spec [K_is_between U] {v : PV} {lo hi : Int} (hv : pl v = true) : phi U (n + 2) 202 [v, .int lo, .int hi] S = .ok (.bl (betw lo hi v)) S := by
  refine wp.to (wp_fn K_is_between.h202 rfl ?_)
  unfold b_is_between
  refine wp_last ?_
  simp [startS, hv]
  cases v with
  | int i =>
    simp [isNum, betw]
    by_cases h : lo ≤ i <;> simp [h, wOut]
  | _ => simp [isNum, betw, wOut]
@[simp] theorem is_index_spec [K_is_index U] {v : PV} {many : Int} (hv : pl v = true) : phi U (n + 3) 210 [v, .int many] S = .ok (.bl (betw 0 (many - 1) v)) S := by
  refine wp.to (wp_fn K_is_index.h210 rfl ?_)
  unfold b_is_index
  refine wp_last ?_
  simp [startS, hv, wOut]
@[simp] theorem is_list_spec [K_is_list U] {v : PV} (hv : pl v = true) : phi U (n + 1) 203 [v] S = .ok (.bl (isSeq v)) S := by
  refine wp.to (wp_fn K_is_list.h203 rfl ?_)
  unfold b_is_list
  refine wp_last ?_
  simp [startS, hv]
  cases v <;> simp [isSeq, isTup, wOut]
@[simp] theorem idx_t0 {a : PV} {r : List PV} : index (.tup (a :: r)) (.int 0) S = .ok a S := index_of rfl (atI_nat (k := 0) rfl)
@[simp] theorem idx_t1 {a b : PV} {r : List PV} : index (.tup (a :: b :: r)) (.int 1) S = .ok b S := index_of rfl (atI_nat (k := 1) rfl)
@[simp] theorem idx_t2 {a b c : PV} {r : List PV} : index (.tup (a :: b :: c :: r)) (.int 2) S = .ok c S := index_of rfl (atI_nat (k := 2) rfl)
@[simp] theorem idx_l0 {a : PV} {r : List PV} : index (.lst (a :: r)) (.int 0) S = .ok a S := index_of rfl (atI_nat (k := 0) rfl)
/-! ### comprehensions that change nothing -/
section
variable {Φ : Phi} {σ : Sg} {own : List Nat} {tg : Tg} {it : It} {e : E} {mm : Bool} {w : List PV × List PV}
theorem lc_map (hi : evi Φ it σ S = .ok w S) (hl : w.2.length ≤ line) (f : PV → PV) (h : ∀ x ∈ w.2, ∃ σ1, evg Φ tg x (wipeS σ own) S = .ok σ1 S ∧ ev Φ e σ1 S = .ok (f x) S) : ev Φ (.lc mm own tg it .none e) σ S = mkL mm (w.2.map f) S := by
  rw [ev_lc, hi, bind_ok', lenG_of hl, lcGo_map (stand_self _ _) f fun x hx => ?_, bind_ok', List.nil_append]
  obtain ⟨σ1, h1, h2⟩ := h x hx
  exact ⟨σ1, h1, rfl, h2⟩
theorem lc_filter {c : Tst} (hi : evi Φ it σ S = .ok w S) (hl : w.2.length ≤ line) (p : PV → Bool) (f : PV → PV) (h : ∀ x ∈ w.2, ∃ σ1, evg Φ tg x (wipeS σ own) S = .ok σ1 S ∧ evt Φ c σ1 S = .ok (p x) S ∧ (p x = true → ev Φ e σ1 S = .ok (f x) S)) : ev Φ (.lc mm own tg it (.some c) e) σ S = mkL mm ((w.2.filter p).map f) S := by
  rw [ev_lc, hi, bind_ok', lenG_of hl, lcGo_filter (stand_self _ _) p f fun x hx => ?_, bind_ok', List.nil_append]
  obtain ⟨σ1, h1, h2, h3⟩ := h x hx
  exact ⟨σ1, h1, h2, h3⟩
end
@[simp] theorem bi_all_map {α : Type} {f : α → Bool} {xs : List α} : bi1 .all (.lst (xs.map fun x => .bl (f x))) S = .ok (.bl (xs.all f)) S := by
  have e : xs.map (fun x => PV.bl (f x)) = (xs.map f).map PV.bl := by simp
  rw [e]
  show (match bls ((xs.map f).map PV.bl) with | some l => Rs.ok (PV.bl (l.all id)) S | none => .no) = _
  rw [bls_map]
  simp
@[simp] theorem bi_any_map {α : Type} {f : α → Bool} {xs : List α} : bi1 .any (.lst (xs.map fun x => .bl (f x))) S = .ok (.bl (xs.any f)) S := by
  have e : xs.map (fun x => PV.bl (f x)) = (xs.map f).map PV.bl := by simp
  rw [e]
  show (match bls ((xs.map f).map PV.bl) with | some l => Rs.ok (PV.bl (l.any id)) S | none => .no) = _
  rw [bls_map]
  simp
theorem bi_sum_of {x : PV} {xs : List PV} {l : List Int} (h : items x S = some xs) (hl : intsOf xs = some l) : bi1 .sum x S = .ok (.int l.sum) S := by simp [bi1, h, hl]
theorem isNum_ints : ∀ {xs : List PV}, xs.all isNum = true → ∃ l : List Int, xs = l.map .int
  | [], _ => ⟨[], rfl⟩
  | x :: xs, h => by
    obtain ⟨h1, h2⟩ := Bool.and_eq_true_iff.mp (show (isNum x && xs.all isNum) = true from h)
    obtain ⟨l, rfl⟩ := isNum_ints h2
    cases x with
    | int i => exact ⟨i :: l, rfl⟩
    | _ => cases h1
/-- tuples of a sequence that is no longer than all sequences -/
def short (xs : List PV) : Prop := xs.length ≤ line
@[simp] theorem is_row_spec [K_is_row U] {v : PV} {many : Int} (hv : pl v = true) (hl : many ≤ 100000) : phi U (n + 2) 204 [v, .int many] S = .ok (.bl (rowB many v)) S := by
  refine wp.to (wp_fn K_is_row.h204 rfl ?_)
  unfold b_is_row
  refine wp_last ?_
  cases v with
  | tup xs =>
    simp [startS, isTup, ifB_bl, wp_ite, rowB]
    have hp : ∀ x ∈ xs, pl x = true := fun x hx => pls_mem hv hx
    by_cases h : (xs.length : Int) = many
    · simp [h]
      rw [lc_map (w := ([.tup xs], xs)) (by simp) (by simp [line]; omega) (fun x => .bl (isNum x)) fun x hx => ⟨_, rfl, by simp [hp x hx]⟩]
      simp [wOut]
    · simp [h, wOut]
  | _ => simp [startS, hv, isTup, rowB, wOut] <;> simp at hv
theorem nonneg_num {l : List PV} (h : l.all nonneg = true) : l.all isNum = true := List.all_eq_true.mpr fun x hx => by
  have := List.all_eq_true.mp h x hx
  cases x <;> simp [nonneg, isNum] at this ⊢
theorem cntB_of {many : Int} {v : PV} : cntB many v = (rowB many v && (match v with | .tup xs => xs.all nonneg | _ => false)) := by
  cases v with
  | tup xs =>
    show (_ && _) = ((_ && _) && _)
    cases h : xs.all nonneg with
    | true => rw [nonneg_num h]; simp only [h, Bool.and_true]
    | false => simp only [h, Bool.and_false]
  | _ => rfl
@[simp] theorem is_count_row_spec [K_is_count_row U] {v : PV} {many : Int} (hv : pl v = true) (hl : many ≤ 100000) : phi U (n + 3) 205 [v, .int many] S = .ok (.bl (cntB many v)) S := by
  refine wp.to (wp_fn K_is_count_row.h205 rfl ?_)
  unfold b_is_count_row
  refine wp_last ?_
  simp [startS, is_row_spec hv hl, ifB_bl, wp_ite, cntB_of]
  by_cases h : rowB many v = true
  · simp only [h, if_true, Bool.true_and]
    cases v with
    | tup xs =>
      have hi := List.all_eq_true.mp (Bool.and_eq_true_iff.mp h).2
      rw [lc_map (w := ([.tup xs], xs)) (by simp) (by have h9 := of_decide_eq_true (Bool.and_eq_true_iff.mp h).1; simp [line]; omega) (fun x => .bl (nonneg x)) fun x hx => ⟨_, rfl, by
        have := hi x hx
        cases x <;> simp [isNum, nonneg] at this ⊢⟩]
      simp [wOut]
    | _ => cases h
  · simp [h, wOut]
/-! ### divisors -/
/-- the greatest common divisor of a row -/
def gcdL (l : List Int) : Nat := l.foldl (fun g a => Nat.gcd g a.natAbs) 0
theorem gcdL_from (g : Nat) : ∀ l : List Int, l.foldl (fun g a => Nat.gcd g a.natAbs) g = Nat.gcd g (gcdL l)
  | [] => by simp [gcdL]
  | a :: l => by
    show l.foldl _ (Nat.gcd g a.natAbs) = Nat.gcd g (l.foldl _ (Nat.gcd 0 a.natAbs))
    rw [gcdL_from, gcdL_from _ l, Nat.gcd_assoc]
    simp
theorem gcdL_cons (a : Int) (l : List Int) : gcdL (a :: l) = Nat.gcd a.natAbs (gcdL l) := by
  show l.foldl _ (Nat.gcd 0 a.natAbs) = _
  rw [gcdL_from]
  simp
/-- Euclid's loop: 3 here, 4 there -/
theorem euclid {Φ : Phi} {c : Tst} {b : Ts} {S : Store} {Q : Fl × Sg → Store → Prop} {E : PV → Store → Prop} {st : Int → Int → Sg} (hc : ∀ x y : Int, evt Φ c (st x y) S = .ok (decide (y ≠ 0)) S) (hb : ∀ x y : Int, 0 < y → exs Φ b (st x y) S = .ok (.nx, st y (x.fmod y)) S) (hm : ∀ x y x' y' : Int, mask (st x y) (st x' y') = st x' y') {x y : Nat} (hq : Q (.nx, st (Nat.gcd x y) 0) S) :
    wp (whl (fun σ S => evt Φ c σ S) (fun σ S => exs Φ b σ S) (st x y) S) Q E := by
  refine wp_while (fun k σ T => ∃ x' y' : Nat, σ = st x' y' ∧ T = S ∧ Nat.gcd x' y' = Nat.gcd x y ∧ y' = k) ?_ (n := y) ⟨x, y, rfl, rfl, rfl, rfl⟩
  rintro k σ T ⟨x', y', rfl, rfl, hg, rfl⟩
  rw [hc]
  by_cases h : y' = 0
  · subst h
    simp only [Nat.gcd_zero_right] at hg
    subst hg
    simpa using hq
  · have hy : (0 : Int) < y' := by omega
    simp only [wp_ok, show decide ((y' : Int) ≠ 0) = true from decide_eq_true (by omega), cond_true]
    rw [hb _ _ hy]
    simp only [wp_ok]
    refine ⟨x' % y', Nat.mod_lt _ (by omega), y', x' % y', ?_, by trivial, ?_, rfl⟩
    · rw [hm, Int.fmod_eq_emod_of_nonneg _ (by omega)]
      rfl
    · rw [← hg, Nat.gcd_comm x' y', Nat.gcd_rec y' x', Nat.gcd_comm]
@[simp] theorem divisor_of_spec [K_divisor_of U] {x : PV} {l : List Int} (hx : items x S = some (l.map .int)) (hs : stand [x] S S := stand_self _ _) : phi U (n + 1) 206 [x] S = .ok (.int (gcdL l)) S := by
  refine wp.to (wp_fn K_divisor_of.h206 rfl ?_)
  unfold b_divisor_of
  refine wp_cons ?_
  simp [startS]
  refine wp_cons (wp_forS ?_)
  simp [hx]
  refine wp_for (fun xs σ T => ∃ (l' : List Int) (g : Nat), xs = l'.map .int ∧ σ = [some x, some (.int g), none, none, none] ∧ T = S ∧ l'.foldl (fun g a => Nat.gcd g a.natAbs) g = gcdL l) ?_ ?_ ?_ ?_
  · rintro xs σ T ⟨l', g, rfl, rfl, rfl, h⟩
    exact hs
  · rintro v xs σ T ⟨l', g, hxs, rfl, rfl, h⟩
    cases l' with
    | nil => cases hxs
    | cons a l' =>
      rw [List.map_cons] at hxs
      obtain ⟨rfl, rfl⟩ := List.cons.inj hxs
      simp
      refine wp_cons ?_
      simp
      refine wp_cons ?_
      rw [ex_while]
      refine euclid (st := fun p q => [some x, some (.int g), some (.int a), some (.int p), some (.int q)]) (x := g) (y := a.natAbs) (fun p q => by simp) (fun p q hq => ?_) (fun p q p' q' => by simp) ?_
      · rw [exs_cons]
        simp [mod_int (show q ≠ 0 by omega), exs_nil]
      · simp
        refine wp_last ?_
        simp
        exact ⟨l', rfl, _, rfl, h⟩
  · rintro σ T ⟨l', g, hl, rfl, rfl, h⟩
    simp
    refine wp_last ?_
    cases l' with
    | nil => simp [wOut, ← h]
    | cons a l => cases hl
  · exact ⟨l, 0, rfl, rfl, rfl, rfl⟩
@[simp] theorem lfs_mapi {α : Type} {f : α → Int} {l : List α} : lfs (l.map fun i => PV.int (f i)) = true := lfs_map (fun _ => rfl) l
@[simp] theorem pls_mapi {α : Type} {f : α → Int} {l : List α} : pls (l.map fun i => PV.int (f i)) = true := pls_map (fun _ => rfl) l
/-- a row as a value -/
def rowV (r : Int × List Int) : PV := .tup [.int r.1, .tup (r.2.map .int)]
@[simp] theorem pl_rowV (r : Int × List Int) : pl (rowV r) = true := by simp [rowV]
@[simp] theorem lf_rowV (r : Int × List Int) : lf (rowV r) = true := pl_lf (pl_rowV r)
/-- without a common divisor -/
def lpair (s : Int) (l : List Int) : Int × List Int := (s / (gcdL (s :: l) : Int), l.map fun x => x / (gcdL (s :: l) : Int))
theorem gcdL_pos {s : Int} {l : List Int} (h : 0 < s) : 0 < gcdL (s :: l) := by
  rw [gcdL_cons]
  exact Nat.gcd_pos_of_pos_left _ (by omega)
theorem gcdL_le {s : Int} {l : List Int} (h : 0 < s) : (gcdL (s :: l) : Int) ≤ s := by
  rw [gcdL_cons]
  have := Nat.gcd_le_left (gcdL l) (show 0 < s.natAbs by omega)
  omega
theorem fdiv_gcd {mm : Bool} {s i : Int} {l : List Int} (h : 0 < s) (h2 : s.natAbs < divLine) : binop .fdiv mm (.int i) (.int (gcdL (s :: l))) S = .ok (.int (i / (gcdL (s :: l) : Int))) S := by
  have h3 := gcdL_pos (l := l) h
  have h4 := gcdL_le (l := l) h
  rw [fdiv_int (by omega) (.inl (by omega)), Int.fdiv_eq_ediv_of_nonneg _ (by omega)]
@[simp] theorem bi_tuple_map {xs : List PV} : bi1 .tuple (.lst xs) S = .ok (.tup xs) S := rfl
theorem least_pair_spec [K_least_pair U] {s : Int} {x : PV} {l : List Int} (hs : 0 < s) (hs2 : s.natAbs < divLine) (hx : items x S = some (l.map .int)) (hl : l.length < line) : phi U (n + 2) 208 [.int s, x] S = .ok (rowV (lpair s l)) S := by
  refine wp.to (wp_fn K_least_pair.h208 rfl ?_)
  unfold b_least_pair
  refine wp_cons ?_
  have hc : items (.tup (.int s :: l.map .int)) S = some ((s :: l).map .int) := rfl
  simp [startS, hx, divisor_of_spec hc, show l.length + 1 ≤ line from hl]
  refine wp_last ?_
  simp [fdiv_gcd hs hs2]
  rw [lc_map (w := ([x], l.map .int)) (by simp [hx]) (by simp; omega) (fun v => match v with | .int i => .int (i / (gcdL (s :: l) : Int)) | v => v) fun v hv => ⟨_, rfl, by
    obtain ⟨i, _, rfl⟩ := List.mem_map.mp hv
    simp [fdiv_gcd hs hs2]⟩]
  simp [line, wOut, rowV, lpair, Function.comp_def]
@[simp] theorem L_divisor_spec [K_L_divisor U] {x : PV} {l : List Int} (hx : items x S = some (l.map .int)) (hs : stand [x] S S := stand_self _ _) : phi U (n + 1) 250 [x] S = .ok (.int (gcdL l)) S := by
  refine wp.to (wp_fn K_L_divisor.h250 rfl ?_)
  unfold b_L_divisor
  refine wp_cons ?_
  simp [startS]
  refine wp_cons (wp_forS ?_)
  simp [hx]
  refine wp_for (fun xs σ T => ∃ (l' : List Int) (g : Nat), xs = l'.map .int ∧ σ = [some x, some (.int g), none, none, none] ∧ T = S ∧ l'.foldl (fun g a => Nat.gcd g a.natAbs) g = gcdL l) ?_ ?_ ?_ ?_
  · rintro xs σ T ⟨l', g, rfl, rfl, rfl, h⟩
    exact hs
  · rintro v xs σ T ⟨l', g, hxs, rfl, rfl, h⟩
    cases l' with
    | nil => cases hxs
    | cons a l' =>
      rw [List.map_cons] at hxs
      obtain ⟨rfl, rfl⟩ := List.cons.inj hxs
      simp
      refine wp_cons ?_
      simp
      refine wp_cons ?_
      rw [ex_while]
      refine euclid (st := fun p q => [some x, some (.int g), some (.int a), some (.int p), some (.int q)]) (x := g) (y := a.natAbs) (fun p q => by simp) (fun p q hq => ?_) (fun p q p' q' => by simp) ?_
      · rw [exs_cons]
        simp [mod_int (show q ≠ 0 by omega), exs_nil]
      · simp
        refine wp_last ?_
        simp
        exact ⟨l', rfl, _, rfl, h⟩
  · rintro σ T ⟨l', g, hl, rfl, rfl, h⟩
    simp
    refine wp_last ?_
    cases l' with
    | nil => simp [wOut, ← h]
    | cons a l => cases hl
  · exact ⟨l, 0, rfl, rfl, rfl, rfl⟩
@[simp] theorem bl_list_of {x : PV} {xs : List PV} {mm : Bool} (h : items x S = some xs) : bl1 .list mm x S = mkL mm xs S := by simp [bl1, h]
theorem L_pair_spec [K_L_pair U] {s : Int} {x : PV} {l : List Int} (hs : 0 < s) (hs2 : s.natAbs < divLine) (hx : items x S = some (l.map .int)) (hl : l.length < line) : phi U (n + 2) 257 [.int s, x] S = .ok (rowV (lpair s l)) S := by
  refine wp.to (wp_fn K_L_pair.h257 rfl ?_)
  unfold b_L_pair
  refine wp_cons ?_
  have hc : items (.lst (.int s :: l.map .int)) S = some ((s :: l).map .int) := rfl
  simp [startS, bl_list_of hx]
  rw [if_pos (by simp [line])]
  simp [bl_list_of hx]
  rw [add_lst (by simp; omega)]
  simp [L_divisor_spec hc]
  refine wp_last ?_
  simp [fdiv_gcd hs hs2]
  rw [lc_map (w := ([x], l.map .int)) (by simp [hx]) (by simp; omega) (fun v => match v with | .int i => .int (i / (gcdL (s :: l) : Int)) | v => v) fun v hv => ⟨_, rfl, by
    obtain ⟨i, _, rfl⟩ := List.mem_map.mp hv
    simp [fdiv_gcd hs hs2]⟩]
  simp [line, wOut, rowV, lpair, Function.comp_def]
/-- a chance row -/
theorem pls_get {xs : List PV} {k : Nat} {x : PV} (h : pls xs = true) (hx : xs[k]? = some x) : pl x = true := pls_mem h (List.mem_of_getElem? hx)
theorem ints_of_nonneg {xs : List PV} (h : xs.all nonneg = true) : ∃ l : List Int, xs = l.map .int ∧ ∀ i ∈ l, 0 ≤ i := by
  obtain ⟨l, rfl⟩ := isNum_ints (nonneg_num h)
  refine ⟨l, rfl, fun i hi => ?_⟩
  have := List.all_eq_true.mp h (.int i) (List.mem_map.mpr ⟨i, hi, rfl⟩)
  simpa [nonneg] using this
@[simp] theorem sumI_map (l : List Int) : sumI (l.map .int) = l.sum := by simp [sumI, ints_map]
@[simp] theorem is_chance_row_spec [K_is_chance_row U] {v : PV} {many : Int} (hv : pl v = true) (hl : many ≤ 100000) : phi U (n + 4) 223 [.int many, v] S = .ok (.bl (crowB many v)) S := by
  refine wp.to (wp_fn K_is_chance_row.h223 rfl ?_)
  unfold b_is_chance_row
  refine wp_cons ?_
  cases v with
  | tup xs =>
    simp [startS, wp_bif, wp_ite]
    by_cases h2 : (xs.length : Int) = 2
    · obtain ⟨a, b, rfl⟩ : ∃ a b, xs = [a, b] := by
        match xs, h2 with
        | [a, b], _ => exact ⟨a, b, rfl⟩
        | [], h => simp at h
        | [_], h => simp at h
        | _ :: _ :: _ :: _, h => simp at h; omega
      simp at hv
      simp [is_number_spec hv.1]
      cases a with
      | int t =>
        simp [isNum, wp_bif]
        by_cases ht : t < 1
        · simp [ht]
          refine wp_last ?_
          simp [wOut, crowB, show ¬ 1 ≤ t by omega]
        · simp [ht]
          refine wp_last ?_
          simp [is_count_row_spec hv.2 hl, ifB_bl, wp_ite]
          by_cases hc : cntB many b = true
          · simp [hc]
            cases b with
            | tup ys =>
              obtain ⟨l, rfl, _⟩ := ints_of_nonneg (Bool.and_eq_true_iff.mp hc).2
              rw [bi_sum_of (x := .tup (l.map .int)) rfl (ints_map l)]
              simp [wOut, crowB, hc, sumV, show 1 ≤ t by omega]
            | _ => cases hc
          · simp [hc, wOut, crowB]
      | _ =>
        simp [isNum]
        refine wp_last ?_
        simp [wOut, crowB]
    · simp [h2]
      refine wp_last ?_
      simp [wOut, crowB_len h2]
  | _ =>
    simp [startS, isTup] <;> simp at hv
    all_goals
      refine wp_last ?_
      simp [wOut, crowB]
end
end Sv
end

section
set_option linter.all false
set_option maxRecDepth 10000
/-! walks and houses: what is made, what is equal -/
namespace Sv
open PySem
/-- Walk.__eq__: 0 self, 1 other -/
def b_Walk___eq__ : Ts := (.cons (.ret (.and (.isi (.x 1) [.cls 100]) (.cmp .eq (.att (.x 0) [(100, 0)]) (.att (.x 1) [(100, 0)])))) .nil)
def d_Walk___eq__ : FD := .fn 2 2 b_Walk___eq__
class K_Walk___eq__ (U : Nat → Option FD) : Prop where
  h101 : U 101 = some d_Walk___eq__
/-- Walk.__init__: 0 self, 1 rows, 2 total, 3 numbers, 4 row -/
def b_Walk___init__ : Ts := (.cons (.ifs (.or (.not (.v (.call 203 (.cons (.x 1) .nil)))) (.not (.v (.chn .le .le (.ki 1) (.bi .len (.x 1)) (.gi "MOST_PLACES" 8))))) (.cons (.raise 1 0 (.cons (.ks "no list of one to eight rows") .nil)) .nil) .nil) (.cons (.ifs (.not (.v (.bi .all (.lc false [4] (.x 4) (.e (.x 1)) .none (.call 223 (.cons (.bi .len (.x 1)) (.cons (.x 4) .nil))))))) (.cons (.raise 1 0 (.cons (.ks "a row that is none") .nil)) .nil) .nil) (.cons (.setAt (.x 0) 100 0 (.bi .tuple (.lc false [2, 3] (.tup (.cons (.x 2) (.cons (.x 3) .nil))) (.e (.x 1)) .none (.call 208 (.cons (.x 2) (.cons (.x 3) .nil)))))) (.cons (.setAt (.x 0) 100 1 (.bi .len (.att (.x 0) [(100, 0)]))) .nil))))
def d_Walk___init__ : FD := .cls 2 5 b_Walk___init__
class K_Walk___init__ (U : Nat → Option FD) : Prop extends K_Walk___eq__ U, K_is_chance_row U, K_is_list U, K_least_pair U where
  h100 : U 100 = some d_Walk___init__
/-- are_moves: 0 thing, 1 rows, 2 row -/
def b_are_moves : Ts := (.cons (.ifs (.or (.not (.v (.call 203 (.cons (.x 0) .nil)))) (.not (.v (.chn .le .le (.ki 1) (.bi .len (.x 0)) (.ki 8))))) (.cons (.ret (.kb false)) .nil) .nil) (.cons (.for (.x 1) (.e (.x 0)) (.cons (.ifs (.or (.not (.v (.call 203 (.cons (.x 1) .nil)))) (.or (.not (.v (.chn .le .le (.ki 1) (.bi .len (.x 1)) (.ki 3)))) (.not (.v (.bi .all (.lc false [2] (.x 2) (.e (.x 1)) .none (.call 223 (.cons (.bi .len (.x 0)) (.cons (.x 2) .nil))))))))) (.cons (.ret (.kb false)) .nil) .nil) .nil)) (.cons (.ret (.kb true)) .nil)))
def d_are_moves : FD := .fn 1 3 b_are_moves
class K_are_moves (U : Nat → Option FD) : Prop extends K_is_chance_row U, K_is_list U where
  h366 : U 366 = some d_are_moves
/-- House.__eq__: 0 self, 1 other -/
def b_House___eq__ : Ts := (.cons (.ret (.and (.isi (.x 1) [.cls 110]) (.cmp .eq (.att (.x 0) [(110, 0)]) (.att (.x 1) [(110, 0)])))) .nil)
def d_House___eq__ : FD := .fn 2 2 b_House___eq__
class K_House___eq__ (U : Nat → Option FD) : Prop where
  h111 : U 111 = some d_House___eq__
/-- House.__init__: 0 self, 1 moves, 2 rows, 3 total, 4 numbers -/
def b_House___init__ : Ts := (.cons (.ifs (.not (.v (.call 366 (.cons (.x 1) .nil)))) (.cons (.raise 2 0 (.cons (.ks "no one to three rows for each place") .nil)) .nil) .nil) (.cons (.setAt (.x 0) 110 0 (.bi .tuple (.lc false [2] (.x 2) (.e (.x 1)) .none (.bi .tuple (.lc false [3, 4] (.tup (.cons (.x 3) (.cons (.x 4) .nil))) (.e (.x 2)) .none (.call 208 (.cons (.x 3) (.cons (.x 4) .nil)))))))) (.cons (.setAt (.x 0) 110 1 (.bi .len (.att (.x 0) [(110, 0)]))) .nil)))
def d_House___init__ : FD := .cls 2 5 b_House___init__
class K_House___init__ (U : Nat → Option FD) : Prop extends K_House___eq__ U, K_are_moves U, K_least_pair U where
  h110 : U 110 = some d_House___init__
/-- need_house: 0 house -/
def b_need_house : Ts := (.cons (.ifs (.not (.v (.isi (.x 0) [.cls 110]))) (.cons (.raise 3 0 (.cons (.ks "no house") .nil)) .nil) .nil) .nil)
def d_need_house : FD := .fn 1 1 b_need_house
class K_need_house (U : Nat → Option FD) : Prop where
  h367 : U 367 = some d_need_house
abbrev Row : Type := Int × List Int
/-- whole numbers and tuples, at most so deep -/
def ivn : Nat → PV → Bool
  | _, .int _ => true
  | k + 1, .tup xs => xs.all (ivn k)
  | _, _ => false
theorem ivn_isD : ∀ {k : Nat} {x : PV}, ivn k x = true → isD k x = true
  | 0, x, h => by cases x <;> simp [ivn, isD] at h ⊢
  | k + 1, x, h => by
    cases x with
    | tup xs =>
      have h' : xs.all (ivn k) = true := h
      show xs.all (isD k) = true
      exact List.all_eq_true.mpr fun y hy => ivn_isD (List.all_eq_true.mp h' y hy)
    | int i => rfl
    | _ => simp [ivn] at h
theorem isD_mono : ∀ {k j : Nat} {x : PV}, isD k x = true → k ≤ j → isD j x = true
  | 0, j, x, h, _ => by cases x <;> cases j <;> simp_all [isD]
  | k + 1, 0, x, h, hj => by omega
  | k + 1, j + 1, x, h, hj => by
    cases x with
    | tup xs =>
      have h' : xs.all (isD k) = true := h
      show xs.all (isD j) = true
      exact List.all_eq_true.mpr fun y hy => isD_mono (List.all_eq_true.mp h' y hy) (by omega)
    | lst xs =>
      have h' : xs.all (isD k) = true := h
      show xs.all (isD j) = true
      exact List.all_eq_true.mpr fun y hy => isD_mono (List.all_eq_true.mp h' y hy) (by omega)
    | _ => first | exact h | rfl
theorem peqs_of {xs : List PV} (ih : ∀ x ∈ xs, ∀ y, (peq x y = true ↔ x = y)) : ∀ ys : List PV, (peqs xs ys = true ↔ xs = ys) := by
  induction xs with
  | nil => intro ys; cases ys <;> simp [peqs]
  | cons x xs ihx =>
    intro ys
    cases ys with
    | nil => simp [peqs]
    | cons y ys =>
      have h1 := ih x List.mem_cons_self y
      have h2 := ihx (fun z hz => ih z (List.mem_cons_of_mem _ hz)) ys
      show (peq x y && peqs xs ys) = true ↔ _
      rw [Bool.and_eq_true, h1, h2]
      simp
/-- such values are equal where they are the same; the other one must hold no bool -/
theorem peq_ivn : ∀ {k j : Nat} {x y : PV}, ivn k x = true → ivn j y = true → (peq x y = true ↔ x = y)
  | k, j, .int a, y, _, hy => by
    cases y with
    | int b => simp [peq]
    | tup ys => simp [peq]
    | _ => cases j <;> simp [ivn] at hy
  | k + 1, j, .tup xs, y, hx, hy => by
    have hx' : xs.all (ivn k) = true := hx
    cases y with
    | int b => simp [peq]
    | tup ys =>
      cases j with
      | zero => simp [ivn] at hy
      | succ j =>
        have hy' : ys.all (ivn j) = true := hy
        show peqs xs ys = true ↔ _
        have key : ∀ (xs ys : List PV), xs.all (ivn k) = true → ys.all (ivn j) = true → (peqs xs ys = true ↔ xs = ys) := fun xs => by
          induction xs with
          | nil => intro ys _ _; cases ys <;> simp [peqs]
          | cons x xs ih =>
            intro ys h1 h2
            cases ys with
            | nil => simp [peqs]
            | cons y ys =>
              simp only [List.all_cons, Bool.and_eq_true] at h1 h2
              show (peq x y && peqs xs ys) = true ↔ _
              rw [Bool.and_eq_true, peq_ivn h1.1 h2.1, ih ys h1.2 h2.2]
              simp
        rw [key xs ys hx' hy']
        simp
    | _ => cases j <;> simp [ivn] at hy
  | 0, _, .tup xs, _, h, _ => by simp [ivn] at h
  | k, _, .non, _, h, _ => by cases k <;> simp [ivn] at h
  | k, _, .bl _, _, h, _ => by cases k <;> simp [ivn] at h
  | k, _, .str _, _, h, _ => by cases k <;> simp [ivn] at h
  | k, _, .lst _, _, h, _ => by cases k <;> simp [ivn] at h
  | k, _, .fz _, _, h, _ => by cases k <;> simp [ivn] at h
  | k, _, .ins _ _, _, h, _ => by cases k <;> simp [ivn] at h
  | k, _, .exc _ _, _, h, _ => by cases k <;> simp [ivn] at h
  | k, _, .loc _, _, h, _ => by cases k <;> simp [ivn] at h
  | k, _, .clo _, _, h, _ => by cases k <;> simp [ivn] at h
  | k, _, .dic, _, h, _ => by cases k <;> simp [ivn] at h
theorem ivn_ins {k : Nat} {x : PV} (h : ivn k x = true) : ∀ C fs, x ≠ .ins C fs := by
  rintro C fs rfl
  cases k <;> simp [ivn] at h
theorem ivn_deref {k : Nat} {x : PV} {S : Store} (h : ivn k x = true) : deref x S = x := by
  cases x <;> first | rfl | (cases k <;> simp [ivn] at h)
open Classical in
theorem eq_ivn {Φ : Phi} {k j : Nat} {x y : PV} {S : Store} (hx : ivn k x = true) (hy : ivn j y = true) (hk : k ≤ 16 := by decide) (hj : j ≤ 16 := by decide) : cmpop Φ .eq x y S = .ok (.bl (decide (x = y))) S := by
  rw [eq_D (ivn_ins hx) (by rw [ivn_deref hx]; exact isD_mono (ivn_isD hx) hk) (by rw [ivn_deref hy]; exact isD_mono (ivn_isD hy) hj), ivn_deref hx, ivn_deref hy]
  have := peq_ivn hx hy
  by_cases h : x = y
  · rw [this.mpr h, decide_eq_true h]
  · rw [decide_eq_false h]
    cases q : peq x y with
    | true => exact absurd (this.mp q) h
    | false => rfl
open Classical in
theorem ne_ivn {Φ : Phi} {k j : Nat} {x y : PV} {S : Store} (hx : ivn k x = true) (hy : ivn j y = true) (hk : k ≤ 16 := by decide) (hj : j ≤ 16 := by decide) : cmpop Φ .ne x y S = .ok (.bl (!decide (x = y))) S := by
  have h := eq_ivn (Φ := Φ) (S := S) hx hy hk hj
  rw [eq_D (ivn_ins hx) (by rw [ivn_deref hx]; exact isD_mono (ivn_isD hx) hk) (by rw [ivn_deref hy]; exact isD_mono (ivn_isD hy) hj)] at h
  rw [ne_D (ivn_ins hx) (by rw [ivn_deref hx]; exact isD_mono (ivn_isD hx) hk) (by rw [ivn_deref hy]; exact isD_mono (ivn_isD hy) hj)]
  injection h with h1 _
  injection h1 with h1
  rw [h1]
theorem eq_ins {Φ : Phi} {C : Nat} {fs : List PV} {y : PV} {S : Store} {b : Bool} (h : Φ (C + 1) [.ins C fs, y] S = .ok (.bl b) S) : cmpop Φ .eq (.ins C fs) y S = .ok (.bl b) S := by
  show (Φ (C + 1) [.ins C fs, y] S).bind _ = _
  rw [h]
  rfl
theorem ne_ins {Φ : Phi} {C : Nat} {fs : List PV} {y : PV} {S : Store} {b : Bool} (h : Φ (C + 1) [.ins C fs, y] S = .ok (.bl b) S) : cmpop Φ .ne (.ins C fs) y S = .ok (.bl (!b)) S := by
  show (Φ (C + 1) [.ins C fs, y] S).bind _ = _
  rw [h]
  rfl
/-! ### values -/
def rowsV (rs : List Row) : PV := .tup (rs.map rowV)
def movesV (ms : List (List Row)) : PV := .tup (ms.map rowsV)
def walkV (rs : List Row) : PV := .ins 100 [rowsV rs, .int rs.length]
def houseV (ms : List (List Row)) : PV := .ins 110 [movesV ms, .int ms.length]
theorem ivn_ints (k : Nat) (l : List Int) : (l.map PV.int).all (ivn k) = true := by
  rw [List.all_eq_true]
  intro x hx
  obtain ⟨i, _, rfl⟩ := List.mem_map.mp hx
  cases k <;> rfl
@[simp] theorem ivn_rowV (r : Row) : ivn 2 (rowV r) = true := by
  show (ivn 1 (.int r.1) && (ivn 1 (.tup (r.2.map .int)) && true)) = true
  rw [show ivn 1 (.tup (r.2.map .int)) = true from ivn_ints 0 r.2]
  rfl
@[simp] theorem ivn_rowsV (rs : List Row) : ivn 3 (rowsV rs) = true := List.all_eq_true.mpr fun x hx => by
  obtain ⟨r, _, rfl⟩ := List.mem_map.mp hx
  exact ivn_rowV r
@[simp] theorem ivn_movesV (ms : List (List Row)) : ivn 4 (movesV ms) = true := List.all_eq_true.mpr fun x hx => by
  obtain ⟨r, _, rfl⟩ := List.mem_map.mp hx
  exact ivn_rowsV r
@[simp] theorem pl_rowsV (rs : List Row) : pl (rowsV rs) = true := pls_map (fun r => pl_rowV r) rs
@[simp] theorem pl_movesV (ms : List (List Row)) : pl (movesV ms) = true := pls_map (fun r => pl_rowsV r) ms
@[simp] theorem pl_walkV (rs : List Row) : pl (walkV rs) = true := by simp [walkV]
@[simp] theorem pl_houseV (ms : List (List Row)) : pl (houseV ms) = true := by simp [houseV]
theorem int_inj : ∀ {a b : List Int}, a.map PV.int = b.map PV.int → a = b
  | [], [], _ => rfl
  | [], _ :: _, h => by simp at h
  | _ :: _, [], h => by simp at h
  | a :: r, b :: s, h => by
    simp only [List.map_cons, List.cons.injEq, PV.int.injEq] at h
    rw [h.1, int_inj h.2]
theorem map_inj' {α : Type} {f : α → PV} (hf : ∀ a b, f a = f b → a = b) : ∀ {a b : List α}, a.map f = b.map f → a = b
  | [], [], _ => rfl
  | [], _ :: _, h => by simp at h
  | _ :: _, [], h => by simp at h
  | a :: r, b :: s, h => by
    simp only [List.map_cons, List.cons.injEq] at h
    rw [hf _ _ h.1, map_inj' hf h.2]
theorem rowV_inj {a b : Row} (h : rowV a = rowV b) : a = b := by
  obtain ⟨a1, a2⟩ := a
  obtain ⟨b1, b2⟩ := b
  unfold rowV at h
  simp only [PV.tup.injEq, List.cons.injEq, PV.int.injEq, and_true] at h
  rw [h.1, int_inj h.2]
theorem rowsV_inj {a b : List Row} (h : rowsV a = rowsV b) : a = b := map_inj' (fun _ _ => rowV_inj) (by unfold rowsV at h; injection h)
theorem movesV_inj {a b : List (List Row)} (h : movesV a = movesV b) : a = b := map_inj' (fun _ _ => rowsV_inj) (by unfold movesV at h; injection h)
section
variable {U : Nat → Option FD} {n m : Nat} {S : Store}
@[simp] theorem fAt_some {j : Nat} {fs : List PV} {v : PV} (h : fs[j]? = some v) : fAt (some j) fs S = .ok v S := by simp [fAt, h]
open Classical in
theorem Walk_eq_spec [K_Walk___eq__ U] {a b c d : PV} {k j : Nat} (ha : ivn k a = true) (hc : ivn j c = true) (hk : k ≤ 16 := by decide) (hj : j ≤ 16 := by decide) : phi U (n + 1) 101 [.ins 100 [a, b], .ins 100 [c, d]] S = .ok (.bl (decide (a = c))) S := by
  refine wp.to (wp_fn K_Walk___eq__.h101 rfl ?_)
  unfold b_Walk___eq__
  refine wp_last ?_
  simp [startS, fpos, fAt, eq_ivn ha hc hk hj, wOut]
open Classical in
theorem House_eq_spec [K_House___eq__ U] {a b c d : PV} {k j : Nat} (ha : ivn k a = true) (hc : ivn j c = true) (hk : k ≤ 16 := by decide) (hj : j ≤ 16 := by decide) : phi U (n + 1) 111 [.ins 110 [a, b], .ins 110 [c, d]] S = .ok (.bl (decide (a = c))) S := by
  refine wp.to (wp_fn K_House___eq__.h111 rfl ?_)
  unfold b_House___eq__
  refine wp_last ?_
  simp [startS, fpos, fAt, eq_ivn ha hc hk hj, wOut]
theorem House_eq_tup [K_House___eq__ U] {fs xs : List PV} : phi U (n + 1) 111 [.ins 110 fs, .tup xs] S = .ok (.bl false) S := by
  refine wp.to (wp_fn K_House___eq__.h111 rfl ?_)
  unfold b_House___eq__
  refine wp_last ?_
  simp [startS, wOut]
open Classical in
theorem house_eq [K_House___eq__ U] {a b : List (List Row)} : cmpop (phi U (n + 1)) .eq (houseV a) (houseV b) S = .ok (.bl (decide (a = b))) S := by
  unfold houseV
  rw [eq_ins (House_eq_spec (ivn_movesV a) (ivn_movesV b))]
  have : (movesV a = movesV b) ↔ a = b := ⟨movesV_inj, fun h => by rw [h]⟩
  simp [this]
open Classical in
theorem walk_ne [K_Walk___eq__ U] {a b : List Row} : cmpop (phi U (n + 1)) .ne (walkV a) (walkV b) S = .ok (.bl (!decide (a = b))) S := by
  unfold walkV
  rw [ne_ins (Walk_eq_spec (ivn_rowsV a) (ivn_rowsV b))]
  have : (rowsV a = rowsV b) ↔ a = b := ⟨rowsV_inj, fun h => by rw [h]⟩
  simp [this]
/-- the items of a sequence that stands still -/
def seqV : PV → Option (List PV)
  | .tup xs => some xs
  | .lst xs => some xs
  | .fz xs => some xs
  | _ => none
theorem items_pl {v : PV} (h : pl v = true) : items v S = seqV v := by cases v <;> first | rfl | simp at h
theorem seqV_pl {v : PV} {xs : List PV} (h : pl v = true) (hs : seqV v = some xs) : pls xs = true := by cases v <;> simp [seqV] at hs h <;> (subst hs; exact h)
theorem isSeq_seqV {v : PV} : isSeq v = (seqV v).isSome := by cases v <;> rfl
/-- a row whose numbers are those of a chance row -/
structure RowOk (many : Nat) (r : Row) : Prop where
  pos : 1 ≤ r.1
  len : r.2.length = many
  nn : ∀ x ∈ r.2, 0 ≤ x
  sum : r.2.sum ≤ r.1
theorem crowB_rowV {many : Nat} {r : Row} (h : RowOk many r) : crowB many (rowV r) = true := by
  obtain ⟨t, l⟩ := r
  obtain ⟨h1, h2, h3, h4⟩ := h
  dsimp only at h1 h2 h3 h4
  unfold rowV crowB
  have hc : cntB many (.tup (l.map .int)) = true := by
    simp [cntB, h2]
    intro x hx
    simpa [nonneg] using h3 x hx
  simp [hc, sumV, h1, h4]
theorem set_last {c c' : Cl} : (S ++ [c]).set S.length c' = S ++ [c'] := by simp
theorem leave_ins {C : Nat} {fs : List PV} (h : lfs fs = true) : leave S.length S (S ++ [.ins C fs]) (.loc S.length) = .ok (.ins C fs) S := by
  have hm : ∀ {xs : List PV}, lfs xs = true → xs.mapM (frz (S ++ [.ins C fs]) S.length 7) = some xs := fun {xs} => by
    induction xs with
    | nil => intro _; rfl
    | cons x xs ih =>
      intro h
      simp only [lfs_cons, Bool.and_eq_true] at h
      rw [List.mapM_cons, frz_lf h.1, ih h.2]
      rfl
  have hf : frz (S ++ [.ins C fs]) S.length 8 (.loc S.length) = some (.ins C fs) := by
    unfold frz
    simp [hm h]
  rw [leave_of (old_app S _) hf, List.take_left]
theorem attr_loc {i C : Nat} {fs : List PV} {ps : List (Nat × Nat)} (h : S[i]? = some (.ins C fs)) : attr (.loc i) ps S = fAt (fpos ps C) fs S := by simp [attr, h]
@[simp] theorem attr_last {C : Nat} {fs : List PV} {ps : List (Nat × Nat)} : attr (.loc S.length) ps (S ++ [.ins C fs]) = fAt (fpos ps C) fs (S ++ [.ins C fs]) := by simp [attr]
@[simp] theorem setAttr_last {C j : Nat} {fs : List PV} {v : PV} : setAttr (.loc S.length) C j v (S ++ [.ins C fs]) = if fs.length = j then some (S ++ [.ins C (fs ++ [v])]) else none := by simp [setAttr]
/-- without common divisors, as a value -/
def lpR (r : Row) : Row := lpair r.1 r.2
def rowOf : PV → Option Row
  | .tup [.int t, .tup xs] => (intsOf xs).map fun l => (t, l)
  | _ => none
@[simp] theorem rowOf_rowV (r : Row) : rowOf (rowV r) = some r := by simp [rowOf, rowV, ints_map]
def lpV (v : PV) : PV := match rowOf v with
  | some r => rowV (lpR r)
  | none => v
@[simp] theorem lpV_rowV (r : Row) : lpV (rowV r) = rowV (lpR r) := by simp [lpV]
theorem Walk_spec [K_Walk___init__ U] {v : PV} {rs : List Row} (hv : pl v = true) (hs : seqV v = some (rs.map rowV)) (h1 : 1 ≤ rs.length) (h8 : rs.length ≤ 8) (hr : ∀ r ∈ rs, RowOk rs.length r) (hb : ∀ r ∈ rs, r.1.natAbs < divLine) : phi U (n + 5) 100 [v] S = .ok (walkV (rs.map lpR)) S := by
  refine wp.to (wp_cls K_Walk___init__.h100 rfl ?_)
  have hi : ∀ T, items v T = some (rs.map rowV) := fun T => by rw [items_pl hv, hs]
  unfold b_Walk___init__
  refine wp_cons ?_
  simp [startS, is_list_spec hv, isSeq_seqV, hs, bi_len_of (hi _), show (1 : Int) ≤ rs.length by omega, show (rs.length : Int) ≤ 8 by omega]
  refine wp_cons ?_
  simp
  rw [lc_map (w := ([v], rs.map rowV)) (by simp [hi]) (by simp [line]; omega) (fun x => .bl (crowB rs.length x)) fun x hx => ⟨_, rfl, by
    obtain ⟨r, _, rfl⟩ := List.mem_map.mp hx
    simp [bi_len_of (hi _), is_chance_row_spec (pl_rowV r) (show ((rs.length : Nat) : Int) ≤ 100000 by omega)]⟩]
  have hall : (rs.map rowV).all (crowB rs.length) = true := List.all_eq_true.mpr fun x hx => by
    obtain ⟨r, hr', rfl⟩ := List.mem_map.mp hx
    exact crowB_rowV (hr r hr')
  simp only [mkL_false, bi_all_map, wp_ok, hall, truth_bl, okT_some, Bool.not_true, cond_false, wp_nil, wK_nx]
  refine wp_cons ?_
  simp
  rw [lc_map (w := ([v], rs.map rowV)) (by simp [hi]) (by simp [line]; omega) lpV fun x hx => by
    obtain ⟨r, hr', rfl⟩ := List.mem_map.mp hx
    refine ⟨_, rfl, ?_⟩
    simp [rowV]
    rw [show ∀ a b, (PV.tup [PV.int a, PV.tup (List.map PV.int b)]) = rowV (a, b) from fun _ _ => rfl, lpV_rowV]
    exact least_pair_spec (by have := (hr r hr').pos; omega) (hb r hr') rfl (by rw [(hr r hr').len]; simp [line]; omega)]
  simp
  refine wp_last ?_
  rw [ex_setAt]
  simp [fpos, fAt]
  rw [leave_ins (by simp [lfs_all])]
  simp [walkV, rowsV, Function.comp_def]
/-! ### houses -/
def rsB (many : Nat) (w : PV) : Bool := match seqV w with
  | some rs => decide (1 ≤ rs.length) && (decide (rs.length ≤ 3) && rs.all (crowB many))
  | none => false
def aremB (v : PV) : Bool := match seqV v with
  | some vs => decide (1 ≤ vs.length) && (decide (vs.length ≤ 8) && vs.all (rsB vs.length))
  | none => false
theorem are_moves_spec [K_are_moves U] {v : PV} (hv : pl v = true) : phi U (n + 5) 366 [v] S = .ok (.bl (aremB v)) S := by
  refine wp.to (wp_fn K_are_moves.h366 rfl ?_)
  unfold b_are_moves
  refine wp_cons ?_
  cases hs : seqV v with
  | none =>
    simp [startS, is_list_spec hv, isSeq_seqV, hs]
    refine wp_last ?_
    simp [wOut, aremB, hs]
  | some vs =>
    have hi : ∀ T, items v T = some vs := fun T => by rw [items_pl hv, hs]
    have hp := seqV_pl hv hs
    simp [startS, is_list_spec hv, isSeq_seqV, hs, bi_len_of (hi _), ifB_bl, wp_ite, wp_bif]
    by_cases h1 : 1 ≤ vs.length
    · by_cases h8 : vs.length ≤ 8
      · simp [show (1 : Int) ≤ vs.length by omega, show (vs.length : Int) ≤ 8 by omega]
        refine wp_cons (wp_forS ?_)
        simp [hi]
        refine wp_for (fun xs σ T => T = S ∧ σ = [some v, none, none] ∧ pls xs = true ∧ aremB v = xs.all (rsB vs.length)) ?_ ?_ ?_ ?_
        · rintro xs σ T ⟨rfl, _⟩
          exact stand_lf _ _ (by simp [pl_lf hv])
        · rintro w xs σ T ⟨rfl, rfl, hpx, ha⟩
          simp only [pls_cons, Bool.and_eq_true] at hpx
          simp
          refine wp_last ?_
          cases hw : seqV w with
          | none =>
            simp [is_list_spec hpx.1, isSeq_seqV, hw]
            refine wp_last ?_
            simp [wOut, ha, rsB, hw]
          | some rs =>
            have hiw : ∀ T, items w T = some rs := fun T => by rw [items_pl hpx.1, hw]
            have hpr := seqV_pl hpx.1 hw
            simp [is_list_spec hpx.1, isSeq_seqV, hw, bi_len_of (hiw _), ifB_bl, wp_ite, wp_bif]
            by_cases r1 : 1 ≤ rs.length
            · by_cases r3 : rs.length ≤ 3
              · simp [show (1 : Int) ≤ rs.length by omega, show (rs.length : Int) ≤ 3 by omega]
                rw [lc_map (w := ([w], rs)) (by simp [hiw]) (by simp [line]; omega) (fun x => .bl (crowB vs.length x)) fun x hx => ⟨_, rfl, by
                  simp [bi_len_of (hi _), is_chance_row_spec (pls_mem hpr hx) (show ((vs.length : Nat) : Int) ≤ 100000 by omega)]⟩]
                simp only [mkL_false, bi_all_map, wp_ok, truth_bl, okT_some]
                by_cases hc : rs.all (crowB vs.length) = true
                · rw [if_pos hc]
                  have hb : rsB vs.length w = true := by simp [rsB, hw, r1, r3, hc]
                  simp [hpx.2, ha, hb]
                · rw [if_neg hc]
                  refine wp_last ?_
                  have hb : rsB vs.length w = false := by simp [rsB, hw, r1, r3] at hc ⊢; exact hc
                  simp [wOut, ha, hb]
              · simp [show (1 : Int) ≤ rs.length by omega, show ¬ (rs.length : Int) ≤ 3 by omega]
                refine wp_last ?_
                simp [wOut, ha, rsB, hw, r3]
            · simp [show ¬ (1 : Int) ≤ rs.length by omega]
              refine wp_last ?_
              simp [wOut, ha, rsB, hw, r1]
        · rintro σ T ⟨rfl, rfl, _, ha⟩
          simp
          refine wp_last ?_
          simp [wOut, ha]
        · exact ⟨rfl, rfl, hp, by simp [aremB, hs, h1, h8]⟩
      · simp [show (1 : Int) ≤ vs.length by omega, show ¬ (vs.length : Int) ≤ 8 by omega]
        refine wp_last ?_
        simp [wOut, aremB, hs, h8]
    · simp [show ¬ (1 : Int) ≤ vs.length by omega]
      refine wp_last ?_
      simp [wOut, aremB, hs, h1]
/-- the same moves, in lists or tuples -/
def Mv : List PV → List (List Row) → Prop
  | [], [] => True
  | w :: ws, rs :: ms => (pl w = true ∧ seqV w = some (rs.map rowV)) ∧ Mv ws ms
  | _, _ => False
theorem Mv.length : ∀ {ws : List PV} {ms : List (List Row)}, Mv ws ms → ws.length = ms.length
  | [], [], _ => rfl
  | _ :: ws, _ :: ms, h => by simp [Mv.length h.2]
  | [], _ :: _, h => h.elim
  | _ :: _, [], h => h.elim
theorem Mv.mem : ∀ {ws : List PV} {ms : List (List Row)}, Mv ws ms → ∀ w ∈ ws, ∃ rs ∈ ms, pl w = true ∧ seqV w = some (rs.map rowV)
  | _ :: ws, rs :: ms, h, w, hw => by
    rcases List.mem_cons.mp hw with rfl | hw
    · exact ⟨rs, List.mem_cons_self, h.1⟩
    · obtain ⟨rs', hm, q⟩ := Mv.mem h.2 w hw
      exact ⟨rs', List.mem_cons_of_mem _ hm, q⟩
  | [], [], _, _, hw => by cases hw
  | [], _ :: _, h, _, _ => h.elim
  | _ :: _, [], h, _, _ => h.elim
structure MovesOk (ms : List (List Row)) : Prop where
  one : 1 ≤ ms.length
  eight : ms.length ≤ 8
  each : ∀ rs ∈ ms, 1 ≤ rs.length ∧ rs.length ≤ 3 ∧ ∀ r ∈ rs, RowOk ms.length r ∧ r.1.natAbs < divLine
def lpsV (w : PV) : PV := match seqV w with
  | some rs => .tup (rs.map lpV)
  | none => w
theorem Mv.lps : ∀ {ws : List PV} {ms : List (List Row)}, Mv ws ms → ws.map lpsV = ms.map fun rs => rowsV (rs.map lpR)
  | _ :: ws, rs :: ms, h => by
    rw [List.map_cons, List.map_cons, Mv.lps h.2]
    congr 1
    simp [lpsV, h.1.2, rowsV, Function.comp_def]
  | [], [], _ => rfl
  | [], _ :: _, h => h.elim
  | _ :: _, [], h => h.elim
theorem aremB_of {v : PV} {ws : List PV} {ms : List (List Row)} (hs : seqV v = some ws) (hm : Mv ws ms) (ok : MovesOk ms) : aremB v = true := by
  have hl := hm.length
  have h1 := ok.one
  have h8 := ok.eight
  simp [aremB, hs, show 1 ≤ ws.length by omega, show ws.length ≤ 8 by omega]
  intro w hw
  obtain ⟨rs, hrs, hp, hq⟩ := hm.mem w hw
  obtain ⟨e1, e2, e3⟩ := ok.each rs hrs
  have e4 : (rs.map rowV).all (crowB ws.length) = true := List.all_eq_true.mpr fun x hx => by
    obtain ⟨r, hr, rfl⟩ := List.mem_map.mp hx
    rw [hl]
    exact crowB_rowV (e3 r hr).1
  simp only [rsB, hq, List.length_map, e4, Bool.and_true, Bool.and_eq_true, decide_eq_true_eq]
  exact ⟨e1, e2⟩
theorem House_spec [K_House___init__ U] {v : PV} {ws : List PV} {ms : List (List Row)} (hv : pl v = true) (hs : seqV v = some ws) (hm : Mv ws ms) (ok : MovesOk ms) : phi U (n + 6) 110 [v] S = .ok (houseV (ms.map fun rs => rs.map lpR)) S := by
  refine wp.to (wp_cls K_House___init__.h110 rfl ?_)
  have hi : ∀ T, items v T = some ws := fun T => by rw [items_pl hv, hs]
  have hl := hm.length
  have h8 := ok.eight
  unfold b_House___init__
  refine wp_cons ?_
  simp [startS, are_moves_spec hv, aremB_of hs hm ok]
  refine wp_cons ?_
  simp
  rw [lc_map (w := ([v], ws)) (by simp [hi]) (by simp [line]; omega) lpsV fun w hw => by
    obtain ⟨rs, hrs, hp, hq⟩ := hm.mem w hw
    obtain ⟨e1, e2, e3⟩ := ok.each rs hrs
    have hiw : ∀ T, items w T = some (rs.map rowV) := fun T => by rw [items_pl hp, hq]
    refine ⟨_, rfl, ?_⟩
    simp
    rw [lc_map (w := ([w], rs.map rowV)) (by simp [hiw]) (by simp [line]; omega) lpV fun x hx => by
      obtain ⟨r, hr', rfl⟩ := List.mem_map.mp hx
      refine ⟨_, rfl, ?_⟩
      simp [rowV]
      rw [show ∀ a b, (PV.tup [PV.int a, PV.tup (List.map PV.int b)]) = rowV (a, b) from fun _ _ => rfl, lpV_rowV]
      exact least_pair_spec (by have := (e3 r hr').1.pos; omega) (e3 r hr').2 rfl (by rw [(e3 r hr').1.len]; simp [line]; omega)]
    simp [lpsV, hq]]
  simp
  refine wp_last ?_
  rw [ex_setAt]
  have hlf : lfs (ws.map lpsV) = true := by
    rw [hm.lps]
    refine lfs_of fun x hx => ?_
    obtain ⟨rs, _, rfl⟩ := List.mem_map.mp hx
    exact pl_lf (pl_rowsV _)
  simp [fpos, fAt]
  rw [leave_ins (by simp [hlf])]
  simp [houseV, movesV, hm.lps, hl, Function.comp_def]
theorem House_bad [K_House___init__ U] {v : PV} (hv : pl v = true) (hb : aremB v = false) : phi U (n + 6) 110 [v] S = .ex (.exc 2 []) S := by
  have h : wp (phi U (n + 6) 110 [v] S) (fun _ _ => False) (fun e T => e = .exc 2 [] ∧ T = S) := by
    refine wp_cls K_House___init__.h110 rfl ?_
    unfold b_House___init__
    refine wp_cons ?_
    simp [startS, are_moves_spec hv, hb]
    refine wp_last ?_
    simp [wErr, old_app]
  obtain ⟨e, T, h, rfl, rfl⟩ := h.ex_of
  exact h
theorem need_house_ok [K_need_house U] {fs : List PV} : phi U (n + 1) 367 [.ins 110 fs] S = .ok .non S := by
  refine wp.to (wp_fn K_need_house.h367 rfl ?_)
  unfold b_need_house
  refine wp_last ?_
  simp [startS, wOut]
/-- a House, by its class's number -/
def isHouse : PV → Bool
  | .ins C _ => C == 110
  | .exc C _ => C == 110
  | _ => false
theorem need_house_bad [K_need_house U] {v : PV} (hv : pl v = true) (hb : isHouse v = false) : phi U (n + 1) 367 [v] S = .ex (.exc 3 []) S := by
  have h : wp (phi U (n + 1) 367 [v] S) (fun _ _ => False) (fun e T => e = .exc 3 [] ∧ T = S) := by
    refine wp_fn K_need_house.h367 rfl ?_
    unfold b_need_house
    refine wp_last ?_
    have ht : isT v S (.cls 110) = some false := by
      cases v with
      | ins C fs => simp only [isHouse] at hb; simp [hb]
      | exc C fs => simp only [isHouse] at hb; simp at hb ⊢; exact hb
      | _ => first | rfl | simp at hv
    simp [startS, ht]
    refine wp_last ?_
    simp [wErr, old_same]
  obtain ⟨e, T, h, rfl, rfl⟩ := h.ex_of
  exact h
end
end Sv
end

section
set_option linter.all false
set_option maxRecDepth 10000
/-! plans, traps -/
namespace Sv
open PySem
/-- is_plan: 0 house, 1 thing, 2 item, 3 rows -/
def b_is_plan : Ts := (.cons (.ifs (.or (.not (.v (.isi (.x 1) [.tuple]))) (.v (.cmp .ne (.bi .len (.x 1)) (.att (.x 0) [(100, 1), (110, 1)])))) (.cons (.ret (.kb false)) .nil) .nil) (.cons (.ret (.bi .all (.lc false [2, 3] (.tup (.cons (.x 2) (.cons (.x 3) .nil))) (.zip (.x 1) (.att (.x 0) [(110, 0)])) .none (.call 210 (.cons (.x 2) (.cons (.bi .len (.x 3)) .nil)))))) .nil))
def d_is_plan : FD := .fn 2 4 b_is_plan
class K_is_plan (U : Nat → Option FD) : Prop extends K_is_index U where
  h368 : U 368 = some d_is_plan
/-- need_plan: 0 house, 1 plan -/
def b_need_plan : Ts := (.cons (.ifs (.not (.v (.call 368 (.cons (.x 0) (.cons (.x 1) .nil))))) (.cons (.raise 4 0 (.cons (.ks "no index of a move for each place") .nil)) .nil) .nil) .nil)
def d_need_plan : FD := .fn 2 2 b_need_plan
class K_need_plan (U : Nat → Option FD) : Prop extends K_is_plan U where
  h369 : U 369 = some d_need_plan
/-- rows_of: 0 house, 1 plan, 2 rows, 3 item -/
def b_rows_of : Ts := (.cons (.ret (.bi .tuple (.lc false [2, 3] (.tup (.cons (.x 2) (.cons (.x 3) .nil))) (.zip (.att (.x 0) [(110, 0)]) (.x 1)) .none (.idx (.x 2) (.x 3))))) .nil)
def d_rows_of : FD := .fn 2 4 b_rows_of
class K_rows_of (U : Nat → Option FD) : Prop where
  h370 : U 370 = some d_rows_of
/-- stays_in: 0 row, 1 places, 2 place -/
def b_stays_in : Ts := (.cons (.ret (.cmp .eq (.bi .sum (.lc false [2] (.x 2) (.e (.x 1)) .none (.idx (.idx (.x 0) (.ki 1)) (.x 2)))) (.idx (.x 0) (.ki 0)))) .nil)
def d_stays_in : FD := .fn 2 3 b_stays_in
class K_stays_in (U : Nat → Option FD) : Prop where
  h371 : U 371 = some d_stays_in
/-- staying_lot: 0 house, 1 found, 2 lap, 3 place, 4 row -/
def b_staying_lot : Ts := (.cons (.set (.x 1) (.lc false [3] (.x 3) (.range1 (.att (.x 0) [(100, 1), (110, 1)])) .none (.x 3))) (.cons (.for (.x 2) (.range1 (.att (.x 0) [(100, 1), (110, 1)])) (.cons (.set (.x 1) (.lc false [3] (.x 3) (.e (.x 1)) (.some (.v (.bi .any (.lc false [4] (.x 4) (.e (.idx (.att (.x 0) [(110, 0)]) (.x 3))) .none (.call 371 (.cons (.x 4) (.cons (.x 1) .nil))))))) (.x 3))) .nil)) (.cons (.ret (.x 1)) .nil)))
def d_staying_lot : FD := .fn 1 5 b_staying_lot
class K_staying_lot (U : Nat → Option FD) : Prop extends K_stays_in U where
  h372 : U 372 = some d_staying_lot
/-- walk_of: 0 house, 1 plan -/
def b_walk_of : Ts := (.cons (.ex (.call 367 (.cons (.x 0) .nil))) (.cons (.ex (.call 369 (.cons (.x 0) (.cons (.x 1) .nil)))) (.cons (.ret (.call 100 (.cons (.call 370 (.cons (.x 0) (.cons (.x 1) .nil))) .nil))) .nil)))
def d_walk_of : FD := .fn 2 2 b_walk_of
class K_walk_of (U : Nat → Option FD) : Prop extends K_Walk___init__ U, K_need_house U, K_need_plan U, K_rows_of U where
  h373 : U 373 = some d_walk_of
/-- trap: 0 house, 1 places, 2 plan, 3 place, 4 rows, 5 fit, 6 k, 7 row -/
def b_trap : Ts := (.cons (.ex (.call 367 (.cons (.x 0) .nil))) (.cons (.set (.x 1) (.call 372 (.cons (.x 0) .nil))) (.cons (.ifs (.v (.cmp .eq (.x 1) (.lst false .nil))) (.cons (.ret .kn) .nil) .nil) (.cons (.set (.x 2) (.lst true .nil)) (.cons (.for (.tup (.cons (.x 3) (.cons (.x 4) .nil))) (.enum (.att (.x 0) [(110, 0)])) (.cons (.set (.x 5) (.lc false [6, 7] (.tup (.cons (.x 6) (.cons (.x 7) .nil))) (.enum (.x 4)) (.some (.and (.v (.cmp .isIn (.x 3) (.x 1))) (.v (.call 371 (.cons (.x 7) (.cons (.x 1) .nil)))))) (.x 6))) (.cons (.app (.x 2) (.idx (.bin .add false (.x 5) (.lst false (.cons (.ki 0) .nil))) (.ki 0))) .nil))) (.cons (.ret (.tup (.cons (.bi .tuple (.x 1)) (.cons (.bi .tuple (.x 2)) .nil)))) .nil))))))
def d_trap : FD := .fn 1 8 b_trap
class K_trap (U : Nat → Option FD) : Prop extends K_need_house U, K_staying_lot U, K_stays_in U where
  h374 : U 374 = some d_trap
/-- _law_plans: 0 _law_moves, 1 _law_found, 2 _law_some, 3 _law_longer, 4 _law_plan, 5 _law_k -/
def b_L_plans : Ts := (.cons (.set (.x 1) (.lst false (.cons (.tup .nil) .nil))) (.cons (.for (.x 2) (.e (.x 0)) (.cons (.set (.x 3) (.lst false .nil)) (.cons (.for (.x 4) (.e (.x 1)) (.cons (.set (.x 3) (.bin .add false (.x 3) (.lc false [5] (.x 5) (.range1 (.bi .len (.x 2))) .none (.bin .add false (.x 4) (.tup (.cons (.x 5) .nil)))))) .nil)) (.cons (.set (.x 1) (.x 3)) .nil)))) (.cons (.ret (.x 1)) .nil)))
def d_L_plans : FD := .fn 1 6 b_L_plans
class K_L_plans (U : Nat → Option FD) : Prop where
  h376 : U 376 = some d_L_plans
/-- _law_rows_of: 0 _law_moves, 1 _law_plan, 2 _law_some, 3 _law_k -/
def b_L_rows_of : Ts := (.cons (.ret (.bi .tuple (.lc false [2, 3] (.tup (.cons (.x 2) (.cons (.x 3) .nil))) (.zip (.x 0) (.x 1)) .none (.idx (.x 2) (.x 3))))) .nil)
def d_L_rows_of : FD := .fn 2 4 b_L_rows_of
class K_L_rows_of (U : Nat → Option FD) : Prop where
  h377 : U 377 = some d_L_rows_of
/-- _law_stays: 0 _law_row, 1 _law_lot, 2 _law_place -/
def b_L_stays : Ts := (.cons (.ret (.cmp .eq (.bi .sum (.lc false [2] (.x 2) (.e (.x 1)) .none (.idx (.idx (.x 0) (.ki 1)) (.x 2)))) (.idx (.x 0) (.ki 0)))) .nil)
def d_L_stays : FD := .fn 2 3 b_L_stays
class K_L_stays (U : Nat → Option FD) : Prop where
  h300 : U 300 = some d_L_stays
/-- _law_trap: 0 _law_moves, 1 _law_left, 2 _law_lap, 3 _law_place, 4 _law_row -/
def b_L_trap : Ts := (.cons (.set (.x 1) (.lc false [3] (.x 3) (.range1 (.bi .len (.x 0))) .none (.x 3))) (.cons (.for (.x 2) (.range1 (.bi .len (.x 0))) (.cons (.set (.x 1) (.lc false [3] (.x 3) (.e (.x 1)) (.some (.v (.cmp .ne (.lc false [4] (.x 4) (.e (.idx (.x 0) (.x 3))) (.some (.v (.call 300 (.cons (.x 4) (.cons (.x 1) .nil))))) (.ki 1)) (.lst false .nil)))) (.x 3))) .nil)) (.cons (.ret (.x 1)) .nil)))
def d_L_trap : FD := .fn 1 5 b_L_trap
class K_L_trap (U : Nat → Option FD) : Prop extends K_L_stays U where
  h378 : U 378 = some d_L_trap
abbrev natV (k : Nat) : PV := .int (k : Int)
def natsV (l : List Nat) : List PV := l.map natV
@[simp] theorem natsV_len (l : List Nat) : (natsV l).length = l.length := by simp [natsV]
@[simp] theorem lfs_natsV (l : List Nat) : lfs (natsV l) = true := lfs_map (fun _ => rfl) l
@[simp] theorem pls_natsV (l : List Nat) : pls (natsV l) = true := pls_map (fun _ => rfl) l
theorem rng_nat (n : Nat) : rng 0 (n : Int) = natsV (List.range n) := by simp [rng, natsV, natV]
def planB (ms : List (List Row)) : PV → Bool
  | .tup xs => decide (xs.length = ms.length) && (xs.zip ms).all fun p => betw 0 ((p.2.length : Int) - 1) p.1
  | _ => false
structure PlanOk (ms : List (List Row)) (p : List Nat) : Prop where
  len : p.length = ms.length
  each : ∀ (i : Nat) (rs : List Row) (k : Nat), ms[i]? = some rs → p[i]? = some k → k < rs.length
def planRows (ms : List (List Row)) (p : List Nat) : List Row := (ms.zip p).map fun q => q.1.getD q.2 (0, [])
def staysB (r : Row) (L : List Nat) : Bool := decide ((L.map fun p => r.2.getD p 0).sum = r.1)
def stepL (ms : List (List Row)) (L : List Nat) : List Nat := L.filter fun p => (ms.getD p []).any fun r => staysB r L
def itL (ms : List (List Row)) : Nat → List Nat → List Nat
  | 0, L => L
  | n + 1, L => itL ms n (stepL ms L)
def trapL (ms : List (List Row)) : List Nat := itL ms ms.length (List.range ms.length)
def fitL (L : List Nat) (i : Nat) (rs : List Row) : List Nat := (rs.zipIdx.filter fun q => decide (i ∈ L) && staysB q.1 L).map (·.2)
def firstL (L : List Nat) (i : Nat) (rs : List Row) : Nat := (fitL L i rs).headD 0
def trapV (ms : List (List Row)) : PV := match trapL ms with
  | [] => .non
  | L => .tup [.tup (natsV L), .tup (natsV (ms.zipIdx.map fun q => firstL L q.2 q.1))]
section
variable {U : Nat → Option FD} {n m : Nat} {S : Store}
theorem is_plan_spec [K_is_plan U] {ms : List (List Row)} {v : PV} (hv : pl v = true) (h8 : ms.length ≤ 8) : phi U (n + 4) 368 [houseV ms, v] S = .ok (.bl (planB ms v)) S := by
  refine wp.to (wp_fn K_is_plan.h368 rfl ?_)
  unfold b_is_plan
  refine wp_cons ?_
  cases v with
  | tup xs =>
    simp [startS, houseV, fpos, fAt, wp_bif, wp_ite]
    by_cases h : (xs.length : Int) = ms.length
    · simp [h]
      refine wp_last ?_
      simp
      rw [lc_map (w := ([.tup xs, movesV ms], (xs.zip (ms.map rowsV)).map fun p => .tup [p.1, p.2])) (by simp [fpos, fAt, movesV]) (by simp [line]; omega) (fun v => .bl (match v with | .tup [a, .tup b] => betw 0 ((b.length : Int) - 1) a | _ => false)) fun x hx => by
        obtain ⟨⟨a, b⟩, hp, rfl⟩ := List.mem_map.mp hx
        have hb := (List.of_mem_zip hp)
        obtain ⟨rs, _, rfl⟩ := List.mem_map.mp hb.2
        have ha : pl a = true := pls_mem hv hb.1
        refine ⟨_, rfl, ?_⟩
        simp [rowsV, is_index_spec ha]]
      simp only [mkL_false, List.map_map, Function.comp_def, wp_ok]
      rw [List.zip_map_right, List.map_map]
      simp only [Function.comp_def, Prod.map, rowsV, List.length_map, id]
      rw [bi_all_map]
      have h2 : xs.length = ms.length := by omega
      simp [wOut, planB, h2]
    · simp [h]
      refine wp_last ?_
      simp [wOut, planB]
      intro h2
      exact absurd (by rw [h2]) h
  | _ =>
    simp [startS, isTup] <;> simp at hv
    all_goals
      refine wp_last ?_
      simp [wOut, planB]
theorem need_plan_ok [K_need_plan U] {ms : List (List Row)} {v : PV} (hv : pl v = true) (h8 : ms.length ≤ 8) (hp : planB ms v = true) : phi U (n + 5) 369 [houseV ms, v] S = .ok .non S := by
  refine wp.to (wp_fn K_need_plan.h369 rfl ?_)
  unfold b_need_plan
  refine wp_last ?_
  simp [startS, is_plan_spec hv h8, hp, wOut]
theorem need_plan_bad [K_need_plan U] {ms : List (List Row)} {v : PV} (hv : pl v = true) (h8 : ms.length ≤ 8) (hp : planB ms v = false) : phi U (n + 5) 369 [houseV ms, v] S = .ex (.exc 4 []) S := by
  have h : wp (phi U (n + 5) 369 [houseV ms, v] S) (fun _ _ => False) (fun e T => e = .exc 4 [] ∧ T = S) := by
    refine wp_fn K_need_plan.h369 rfl ?_
    unfold b_need_plan
    refine wp_last ?_
    simp [startS, is_plan_spec hv h8, hp]
    refine wp_last ?_
    simp [wErr, old_same]
  obtain ⟨e, T, h, rfl, rfl⟩ := h.ex_of
  exact h
theorem planB_of {ms : List (List Row)} {p : List Nat} (h : PlanOk ms p) : planB ms (.tup (natsV p)) = true := by
  simp [planB, h.len]
  intro a b hab
  obtain ⟨i, hi, e⟩ := List.mem_iff_getElem.mp hab
  have e2 := List.getElem?_eq_getElem hi
  rw [e, List.getElem?_zip_eq_some] at e2
  obtain ⟨e3, e4⟩ := e2
  simp only [natsV, List.getElem?_map, Option.map_eq_some_iff] at e3
  obtain ⟨k, hk, rfl⟩ := e3
  have := h.each i b k e4 hk
  simp [betw]
  omega
/-- the rows that a plan takes: the package, the law -/
theorem rows_lc {Φ : Phi} {σ : Sg} {ms : List (List Row)} {p : List Nat} {it : It} {x y : PV} (hi : evi Φ it σ S = .ok ([x, y], ((ms.map rowsV).zip (natsV p)).map fun p => .tup [p.1, p.2]) S) (h : PlanOk ms p) (h8 : ms.length ≤ 8) (hσ : ∃ a b, σ = [a, b, none, none]) :
    ev Φ (.lc false [2, 3] (.tup (.cons (.x 2) (.cons (.x 3) .nil))) it .none (.idx (.x 2) (.x 3))) σ S = .ok (.lst ((planRows ms p).map rowV)) S := by
  obtain ⟨a, b, rfl⟩ := hσ
  rw [lc_map (w := ([x, y], ((ms.map rowsV).zip (natsV p)).map fun p => .tup [p.1, p.2])) hi (by simp [line]; omega) (fun v => match v with | .tup [.tup b, .int k] => b.getD k.toNat .non | _ => .non) fun z hz => by
    obtain ⟨⟨a, b⟩, hp, rfl⟩ := List.mem_map.mp hz
    refine ⟨_, rfl, ?_⟩
    obtain ⟨i, hi, e⟩ := List.mem_iff_getElem.mp hp
    have e2 := List.getElem?_eq_getElem hi
    rw [e, List.getElem?_zip_eq_some] at e2
    obtain ⟨e3, e4⟩ := e2
    simp only [natsV, List.getElem?_map, Option.map_eq_some_iff] at e3 e4
    obtain ⟨rs, hrs, rfl⟩ := e3
    obtain ⟨k, hk, rfl⟩ := e4
    have hlt := h.each i rs k hrs hk
    simp [rowsV]
    rw [index_of rfl (atI_nat (k := k) (List.getElem?_eq_getElem (by simpa using hlt)))]
    simp [hlt]]
  simp only [mkL_false]
  congr 2
  rw [planRows, List.map_map, List.map_map, natsV, List.zip_map, List.map_map]
  refine List.map_congr_left fun q hq => ?_
  obtain ⟨i, hi, e⟩ := List.mem_iff_getElem.mp hq
  have e2 := List.getElem?_eq_getElem hi
  rw [e, List.getElem?_zip_eq_some] at e2
  have hlt := h.each i _ _ e2.1 e2.2
  simp [rowsV, hlt]
theorem rows_of_spec [K_rows_of U] {ms : List (List Row)} {p : List Nat} (h : PlanOk ms p) (h8 : ms.length ≤ 8) : phi U (n + 1) 370 [houseV ms, .tup (natsV p)] S = .ok (rowsV (planRows ms p)) S := by
  refine wp.to (wp_fn K_rows_of.h370 rfl ?_)
  unfold b_rows_of
  refine wp_last ?_
  simp [startS]
  rw [rows_lc (x := movesV ms) (y := .tup (natsV p)) (by simp [houseV, fpos, fAt, movesV]) h h8 ⟨_, _, rfl⟩]
  simp [wOut, rowsV, lfs_map]
theorem L_rows_of_spec [K_L_rows_of U] {ms : List (List Row)} {p : List Nat} {x : PV} (h : PlanOk ms p) (h8 : ms.length ≤ 8) : phi U (n + 1) 377 [movesV ms, .tup (natsV p)] S = .ok (rowsV (planRows ms p)) S := by
  refine wp.to (wp_fn K_L_rows_of.h377 rfl ?_)
  unfold b_L_rows_of
  refine wp_last ?_
  simp [startS]
  rw [rows_lc (x := movesV ms) (y := .tup (natsV p)) (by simp [movesV]) h h8 ⟨_, _, rfl⟩]
  simp [wOut, rowsV, lfs_map]
/-- whether one stays -/
theorem stays_ev {Φ : Phi} {r : Row} {L : List Nat} {x : PV} {σ : Sg} (hx : items x S = some (natsV L)) (hL : ∀ p ∈ L, p < r.2.length) (hl : L.length ≤ line) (hσ : σ = [some (rowV r), some x, none]) :
    ev Φ (.cmp .eq (.bi .sum (.lc false [2] (.x 2) (.e (.x 1)) .none (.idx (.idx (.x 0) (.ki 1)) (.x 2)))) (.idx (.x 0) (.ki 0))) σ S = .ok (.bl (staysB r L)) S := by
  subst hσ
  simp
  rw [lc_map (w := ([x], natsV L)) (by simp [hx]) (by simpa using hl) (fun v => match v with | .int k => .int (r.2.getD k.toNat 0) | v => v) fun z hz => by
    obtain ⟨p, hp, rfl⟩ := List.mem_map.mp hz
    refine ⟨_, rfl, ?_⟩
    have hlt := hL p hp
    simp [rowV]
    rw [index_of rfl (atI_nat (k := p) (List.getElem?_eq_getElem (by simpa using hlt)))]
    simp [hlt]]
  have e : (natsV L).map (fun v => match v with | .int k => PV.int (r.2.getD k.toNat 0) | v => v) = (L.map fun p => r.2.getD p 0).map PV.int := by
    simp [natsV, Function.comp_def]
  rw [e]
  simp only [mkL_false, bind_ok']
  rw [bi_sum_of (xs := (L.map fun p => r.2.getD p 0).map PV.int) rfl (ints_map _)]
  simp [rowV, staysB]
theorem stays_in_spec [K_stays_in U] {r : Row} {L : List Nat} {x : PV} (hx : items x S = some (natsV L)) (hL : ∀ p ∈ L, p < r.2.length) (hl : L.length ≤ 8) : phi U (n + 1) 371 [rowV r, x] S = .ok (.bl (staysB r L)) S := by
  refine wp.to (wp_fn K_stays_in.h371 rfl ?_)
  unfold b_stays_in
  refine wp_last ?_
  rw [ex_ret, stays_ev (σ := startS 3 [rowV r, x]) hx hL (by simp [line]; omega) (by simp [startS])]
  simp [wOut]
theorem L_stays_spec [K_L_stays U] {r : Row} {L : List Nat} {x : PV} (hx : items x S = some (natsV L)) (hL : ∀ p ∈ L, p < r.2.length) (hl : L.length ≤ 8) : phi U (n + 1) 300 [rowV r, x] S = .ok (.bl (staysB r L)) S := by
  refine wp.to (wp_fn K_L_stays.h300 rfl ?_)
  unfold b_L_stays
  refine wp_last ?_
  rw [ex_ret, stays_ev (σ := startS 3 [rowV r, x]) hx hL (by simp [line]; omega) (by simp [startS])]
  simp [wOut]
theorem planRows_mem {ms : List (List Row)} {p : List Nat} (h : PlanOk ms p) {r : Row} (hr : r ∈ planRows ms p) : ∃ rs ∈ ms, r ∈ rs := by
  obtain ⟨q, hq, rfl⟩ := List.mem_map.mp hr
  obtain ⟨i, hi, e⟩ := List.mem_iff_getElem.mp hq
  have e2 := List.getElem?_eq_getElem hi
  rw [e, List.getElem?_zip_eq_some] at e2
  have hlt := h.each i _ _ e2.1 e2.2
  refine ⟨q.1, List.mem_of_getElem? e2.1, ?_⟩
  rw [List.getD_eq_getElem?_getD, List.getElem?_eq_getElem hlt]
  exact List.getElem_mem hlt
theorem planRows_len {ms : List (List Row)} {p : List Nat} (h : PlanOk ms p) : (planRows ms p).length = ms.length := by simp [planRows, h.len]
/-- lots of places -/
theorem stepL_sub {ms : List (List Row)} {L : List Nat} : ∀ p ∈ stepL ms L, p ∈ L := fun p hp => (List.mem_filter.mp hp).1
structure LotOk (ms : List (List Row)) (L : List Nat) : Prop where
  lt : ∀ p ∈ L, p < ms.length
  len : L.length ≤ ms.length
theorem LotOk.step {ms : List (List Row)} {L : List Nat} (h : LotOk ms L) : LotOk ms (stepL ms L) := ⟨fun p hp => h.lt p (stepL_sub p hp), Nat.le_trans (List.length_filter_le _ _) h.len⟩
theorem LotOk.it {ms : List (List Row)} : ∀ {n : Nat} {L : List Nat}, LotOk ms L → LotOk ms (itL ms n L)
  | 0, _, h => h
  | n + 1, L, h => LotOk.it (n := n) (L := stepL ms L) h.step
theorem LotOk.all (ms : List (List Row)) : LotOk ms (List.range ms.length) := ⟨fun p hp => List.mem_range.mp hp, by simp⟩
theorem row_at {ms : List (List Row)} {p : Nat} (h : p < ms.length) : ∃ rs, ms[p]? = some rs ∧ ms.getD p [] = rs ∧ rs ∈ ms := ⟨ms[p], List.getElem?_eq_getElem h, by simp [h], List.getElem_mem h⟩
theorem staying_lot_spec [K_staying_lot U] {ms : List (List Row)} (ok : MovesOk ms) : phi U (n + 2) 372 [houseV ms] S = .ok (.lst (natsV (trapL ms))) S := by
  refine wp.to (wp_fn K_staying_lot.h372 rfl ?_)
  have h8 := ok.eight
  unfold b_staying_lot
  have hr : ∀ σ : Sg, getS σ 0 = some (houseV ms) → evi (phi U (n + 1)) (.range1 (.att (.x 0) [(100, 1), (110, 1)])) σ S = .ok ([], natsV (List.range ms.length)) S := fun σ h => by
    simp [h, houseV, fpos, fAt]
    rw [rng1V_int (by omega), rng_nat]
  refine wp_cons ?_
  simp only [startS, ex_set, wp_bind, evg_x, nxG_ok]
  rw [lc_map (w := ([], natsV (List.range ms.length))) (hr _ rfl) (by simp [line]; omega) (fun v => v) fun x hx => ⟨_, rfl, by simp⟩]
  simp
  refine wp_cons (wp_forS ?_)
  rw [hr _ rfl]
  simp only [wp_ok]
  refine wp_for (fun xs σ T => ∃ L, T = S ∧ σ = [some (houseV ms), some (.lst (natsV L)), none, none, none] ∧ LotOk ms L ∧ itL ms xs.length L = trapL ms) ?_ ?_ ?_ ?_
  · rintro xs σ T _
    exact stand_nil _ _
  · rintro x xs σ T ⟨L, rfl, rfl, hL, hi⟩
    simp
    refine wp_last ?_
    simp only [ex_set, wp_bind, evg_x, nxG_ok]
    rw [lc_filter (w := ([.lst (natsV L)], natsV L)) (by simp) (by have := hL.len; simp [line]; omega) (fun v => match v with | .int p => (ms.getD p.toNat []).any fun r => staysB r L | _ => false) (fun v => v) fun v hv => by
      obtain ⟨p, hp, rfl⟩ := List.mem_map.mp hv
      have hlt := hL.lt p hp
      obtain ⟨rs, h1, h2, h3⟩ := row_at hlt
      obtain ⟨e1, e2, e3⟩ := ok.each rs h3
      refine ⟨_, rfl, ?_, fun _ => by simp⟩
      simp
      rw [lc_map (w := ([rowsV rs], rs.map rowV)) (by
          simp [houseV, fpos, fAt, movesV]
          rw [index_of rfl (atI_nat (k := p) (by rw [List.getElem?_map, h1]; rfl))]
          simp [rowsV]) (by simp [line]; omega) (fun v => .bl (match rowOf v with | some r => staysB r L | none => false)) fun w hw => by
        obtain ⟨r, hr', rfl⟩ := List.mem_map.mp hw
        refine ⟨_, rfl, ?_⟩
        simp
        rw [stays_in_spec (x := .lst (natsV L)) rfl (fun q hq => by rw [(e3 r hr').1.len]; exact hL.lt q hq) (by have := hL.len; omega)]]
      have e : (rs.map rowV).map (fun v => PV.bl (match rowOf v with | some r => staysB r L | none => false)) = rs.map fun r => .bl (staysB r L) := by simp [Function.comp_def]
      rw [mkL_false, e]
      simp only [bind_ok', bi_any_map]
      simp [h1]]
    simp only [mkL_false, wp_ok, setS_succ, setS_zero, mask_some, mask_none, mask_nil, List.map_id']
    refine ⟨by trivial, stepL ms L, ?_, hL.step, hi⟩
    congr 4
    rw [stepL, natsV, natsV, List.filter_map]
    rfl
  · rintro σ T ⟨L, rfl, rfl, hL, hi⟩
    simp
    refine wp_last ?_
    simp only [List.length_nil, itL] at hi
    simp [wOut, hi]
  · exact ⟨_, rfl, by simp, LotOk.all ms, by simp [trapL]⟩
theorem planRows_ok {ms : List (List Row)} {p : List Nat} (ok : MovesOk ms) (h : PlanOk ms p) : ∀ r ∈ planRows ms p, RowOk (planRows ms p).length r ∧ r.1.natAbs < divLine := fun r hr => by
  obtain ⟨rs, hrs, hr'⟩ := planRows_mem h hr
  rw [planRows_len h]
  exact (ok.each rs hrs).2.2 r hr'
theorem walk_of_spec [K_walk_of U] {ms : List (List Row)} {p : List Nat} (ok : MovesOk ms) (h : PlanOk ms p) : phi U (n + 6) 373 [houseV ms, .tup (natsV p)] S = .ok (walkV ((planRows ms p).map lpR)) S := by
  refine wp.to (wp_fn K_walk_of.h373 rfl ?_)
  have h1 := ok.one
  have h8 := ok.eight
  unfold b_walk_of
  refine wp_cons ?_
  simp [startS]
  rw [show houseV ms = .ins 110 [movesV ms, .int ms.length] from rfl, need_house_ok]
  simp
  refine wp_cons ?_
  simp
  rw [show PV.ins 110 [movesV ms, .int ms.length] = houseV ms from rfl, need_plan_ok (by simp) h8 (planB_of h)]
  simp
  refine wp_last ?_
  simp [rows_of_spec h h8]
  rw [Walk_spec (v := rowsV (planRows ms p)) (by simp) rfl (by rw [planRows_len h]; exact h1) (by rw [planRows_len h]; exact h8) (fun r hr => (planRows_ok ok h r hr).1) (fun r hr => (planRows_ok ok h r hr).2)]
  simp [wOut, pl_lf]
theorem walk_of_bad1 [K_walk_of U] {v w : PV} (hv : pl v = true) (hb : isHouse v = false) : phi U (n + 6) 373 [v, w] S = .ex (.exc 3 []) S := by
  have h : wp (phi U (n + 6) 373 [v, w] S) (fun _ _ => False) (fun e T => e = .exc 3 [] ∧ T = S) := by
    refine wp_fn K_walk_of.h373 rfl ?_
    unfold b_walk_of
    refine wp_cons ?_
    simp [startS, need_house_bad hv hb, wErr, old_same]
  obtain ⟨e, T, h, rfl, rfl⟩ := h.ex_of
  exact h
theorem walk_of_bad2 [K_walk_of U] {ms : List (List Row)} {w : PV} (h8 : ms.length ≤ 8) (hw : pl w = true) (hb : planB ms w = false) : phi U (n + 6) 373 [houseV ms, w] S = .ex (.exc 4 []) S := by
  have h : wp (phi U (n + 6) 373 [houseV ms, w] S) (fun _ _ => False) (fun e T => e = .exc 4 [] ∧ T = S) := by
    refine wp_fn K_walk_of.h373 rfl ?_
    unfold b_walk_of
    refine wp_cons ?_
    simp [startS]
    rw [show houseV ms = .ins 110 [movesV ms, .int ms.length] from rfl, need_house_ok]
    simp
    refine wp_cons ?_
    simp
    rw [show PV.ins 110 [movesV ms, .int ms.length] = houseV ms from rfl, need_plan_bad hw h8 hb]
    simp [wErr, old_same]
  obtain ⟨e, T, h, rfl, rfl⟩ := h.ex_of
  exact h
theorem in_nats {Φ : Phi} {i : Nat} {L : List Nat} : cmpop Φ .isIn (.int i) (.lst (natsV L)) S = .ok (.bl (decide (i ∈ L))) S := by
  have h1 : inOk (.int i) (.lst (natsV L)) (natsV L) = true := by
    simp [inOk, natsV, isD]
  show (match items (.lst (natsV L)) S with
    | some ys => if inOk (.int i) (.lst (natsV L)) ys = true then Rs.ok (PV.bl (ys.any fun z => peq z (.int i))) S else .no
    | none => .no) = _
  rw [items_lst]
  dsimp only
  rw [if_pos h1]
  have h2 : ((natsV L).any fun z => peq z (.int i)) = decide (i ∈ L) := by
    induction L with
    | nil => rfl
    | cons a L ih =>
      simp only [natsV, List.map_cons, List.any_cons] at ih ⊢
      rw [ih (by simp [inOk, natsV, isD])]
      simp [peq, List.mem_cons]
      by_cases h : (a : Int) = i
      · have : i = a := by omega
        simp [this]
      · have : ¬ i = a := by omega
        simp [h, this]
  rw [h2]
/-- the first fitting moves of a place, and 0 -/
theorem fit_ev {Φ : Phi} {σ : Sg} {own : List Nat} {L : List Nat} {i : Nat} {rs : List Row} {c : Tst} {a b x : Nat} {w : List PV} (hi : evi Φ (.enum (.x x)) σ S = .ok (w, (rs.map rowV).zipIdx.map fun p => .tup [.int p.2, p.1]) S) (h3 : rs.length ≤ 3)
    (hc : ∀ q ∈ rs.zipIdx, ∃ σ1, evg Φ (.tup (.cons (.x a) (.cons (.x b) .nil))) (.tup [.int q.2, rowV q.1]) (wipeS σ own) S = .ok σ1 S ∧ evt Φ c σ1 S = .ok (decide (i ∈ L) && staysB q.1 L) S ∧ ev Φ (.x a) σ1 S = .ok (.int q.2) S) :
    ev Φ (.lc false own (.tup (.cons (.x a) (.cons (.x b) .nil))) (.enum (.x x)) (.some c) (.x a)) σ S = .ok (.lst (natsV (fitL L i rs))) S := by
  rw [lc_filter (w := (w, (rs.map rowV).zipIdx.map fun p => .tup [.int p.2, p.1])) hi (by simp [line]; omega) (fun v => match v with | .tup [_, r] => (match rowOf r with | some r => decide (i ∈ L) && staysB r L | none => false) | _ => false) (fun v => match v with | .tup [k, _] => k | _ => .non) fun v hv => by
    obtain ⟨⟨rv, k⟩, hp, rfl⟩ := List.mem_map.mp hv
    rw [List.zipIdx_map] at hp
    obtain ⟨⟨r, k'⟩, hq, e⟩ := List.mem_map.mp hp
    simp only [Prod.map, id, Prod.mk.injEq] at e
    obtain ⟨rfl, rfl⟩ := e
    obtain ⟨σ1, h1, h2, h3⟩ := hc _ hq
    refine ⟨σ1, h1, ?_, fun _ => h3⟩
    rw [h2]
    simp]
  simp only [mkL_false]
  congr 2
  rw [fitL, natsV, List.zipIdx_map, List.map_map, List.map_map, List.filter_map, List.map_map]
  simp [Function.comp_def]
theorem head_ev {L : List Nat} : ∃ r, natsV L ++ [PV.int 0] = natV (L.headD 0) :: r := by
  cases L with
  | nil => exact ⟨[], rfl⟩
  | cons a L => exact ⟨_, rfl⟩
@[simp] theorem isLst_last {xs : List PV} : isLst (.loc S.length) (S ++ [.lst xs]) = true := by simp [isLst, deref]
theorem app_last {xs : List PV} {v : PV} (h : xs.length < line) : app (.loc S.length) v (S ++ [.lst xs]) = some (S ++ [.lst (xs ++ [v])]) := by simp [app, h]
@[simp] theorem items_last {xs : List PV} : items (.loc S.length) (S ++ [.lst xs]) = some xs := by simp [items]
theorem bi_tuple_of {x : PV} {xs : List PV} (h : items x S = some xs) : bi1 .tuple x S = .ok (.tup xs) S := by simp [bi1, h]
theorem enum_moves (ms : List (List Row)) : (ms.map rowsV).zipIdx.map (fun p => PV.tup [.int p.2, p.1]) = ms.zipIdx.map fun q => .tup [.int q.2, rowsV q.1] := by
  rw [List.zipIdx_map, List.map_map]
  rfl
theorem zipIdx_lt {α : Type} {l : List α} {q : α × Nat} (h : q ∈ l.zipIdx) : l[q.2]? = some q.1 ∧ q.2 < l.length := by
  obtain ⟨a, i⟩ := q
  have := List.mem_zipIdx_iff_getElem?.mp h
  exact ⟨this, (List.getElem?_eq_some_iff.mp this).1⟩
theorem trap_spec [K_trap U] {ms : List (List Row)} (ok : MovesOk ms) : phi U (n + 3) 374 [houseV ms] S = .ok (trapV ms) S := by
  refine wp.to (wp_fn K_trap.h374 rfl ?_)
  have h8 := ok.eight
  have hL : LotOk ms (trapL ms) := (LotOk.all ms).it
  unfold b_trap
  refine wp_cons ?_
  simp [startS]
  rw [show houseV ms = .ins 110 [movesV ms, .int ms.length] from rfl, need_house_ok, show PV.ins 110 [movesV ms, .int ms.length] = houseV ms from rfl]
  simp
  refine wp_cons ?_
  simp [staying_lot_spec ok]
  refine wp_cons ?_
  simp [wp_bif]
  unfold trapV
  cases ht : trapL ms with
  | nil =>
    simp [natsV]
    refine wp_last ?_
    simp [wOut]
  | cons p L =>
    rw [if_neg (by simp [natsV])]
    rw [ht] at hL
    refine wp_cons ?_
    simp
    refine wp_cons (wp_forS ?_)
    simp only [evi_enum, ev_att, ev_x, getS_zero, ofO_some, bind_ok', houseV, attr_ins, fpos_cons, wp_bind]
    simp only [show ¬ (110 : Nat) = 100 by decide, if_false, if_true, fAt, List.getElem?_cons_zero, wp_ok, movesV, items_tup, itV_some, enum_moves]
    refine wp_for (fun xs σ T => ∃ (qs : List (List Row × Nat)) (acc : List Nat), xs = qs.map (fun q => .tup [.int q.2, rowsV q.1]) ∧ T = S ++ [.lst (natsV acc)] ∧ σ = [some (houseV ms), some (.lst (natsV (p :: L))), some (.loc S.length), none, none, none, none, none] ∧ (∀ q ∈ qs, q ∈ ms.zipIdx) ∧ acc.length + qs.length = ms.length ∧ acc ++ qs.map (fun q => firstL (p :: L) q.2 q.1) = ms.zipIdx.map fun q => firstL (p :: L) q.2 q.1) ?_ ?_ ?_ ?_
    · rintro xs σ T _
      exact stand_lf _ _ (by simp [pl_lf])
    · rintro x xs σ T ⟨qs, acc, hxs, rfl, rfl, hq, hlen, he⟩
      cases qs with
      | nil => cases hxs
      | cons q qs =>
        simp only [List.map_cons, List.cons.injEq] at hxs
        obtain ⟨rfl, rfl⟩ := hxs
        obtain ⟨hq1, hq2⟩ := zipIdx_lt (hq q List.mem_cons_self)
        obtain ⟨e1, e2, e3⟩ := ok.each q.1 (List.mem_of_getElem? hq1)
        simp
        refine wp_cons ?_
        simp only [ex_set, wp_bind, evg_x, nxG_ok]
        rw [fit_ev (rs := q.1) (L := p :: L) (i := q.2) (w := [rowsV q.1]) (by simp [rowsV]) e2 fun r hr => by
          obtain ⟨hr1, hr2⟩ := zipIdx_lt hr
          refine ⟨_, rfl, ?_, by simp⟩
          have hb := (e3 r.1 (List.mem_of_getElem? hr1)).1
          simp [in_nats]
          generalize (decide (q.2 = p) || decide (q.2 ∈ L)) = b
          cases b with
          | false => simp
          | true =>
            simp
            rw [stays_in_spec (L := p :: L) rfl (fun z hz => by rw [hb.len]; exact hL.lt z hz) (by have := hL.len; omega)]
            simp]
        simp only [wp_ok, setS_succ, setS_zero, wK_nx]
        refine wp_last ?_
        have hfl : (fitL (p :: L) q.2 q.1).length ≤ 3 := by
          unfold fitL
          rw [List.length_map]
          refine Nat.le_trans (List.length_filter_le _ _) (by simp; exact e2)
        simp only [ex_app, ev_x, getS_succ, getS_zero, ofO_some, bind_ok', isLst_last, lstG_true, ev_idx, ev_bin, ev_lst, evs_cons, evs_nil, ev_ki, List.length_cons, List.length_nil, wp_bind, wp_ok]
        rw [if_pos (by simp [line])]
        simp only [mkL_false, wp_ok]
        rw [add_lst (by simp [line]; omega)]
        obtain ⟨r, hr⟩ := head_ev (L := fitL (p :: L) q.2 q.1)
        rw [hr]
        simp only [mkL_false, wp_ok, idx_l0]
        rw [app_last (by simp [line]; simp at hlen; omega)]
        simp only [nxS_some, wp_ok, mask_some, mask_none, mask_nil]
        refine ⟨qs, rfl, acc ++ [firstL (p :: L) q.2 q.1], by simp [natsV, firstL], by trivial, fun a b hz => hq (a, b) (List.mem_cons_of_mem _ hz), by simp at hlen ⊢; omega, by simpa using he⟩
    · rintro σ T ⟨qs, acc, hxs, rfl, rfl, _, _, he⟩
      cases qs with
      | cons q qs => cases hxs
      | nil =>
        simp only [List.map_nil, List.append_nil] at he
        subst he
        simp
        refine wp_last ?_
        simp [bi_tuple_of items_last, line]
        simp [wOut]
    · exact ⟨ms.zipIdx, [], rfl, rfl, rfl, fun q h => h, by simp, by simp⟩
/-! ### the law's own -/
theorem L_trap_spec [K_L_trap U] {ms : List (List Row)} {x : PV} (hx : items x S = some (ms.map rowsV)) (hpl : pl x = true) (ok : MovesOk ms) : phi U (n + 2) 378 [x] S = .ok (.lst (natsV (trapL ms))) S := by
  refine wp.to (wp_fn K_L_trap.h378 rfl ?_)
  have h8 := ok.eight
  unfold b_L_trap
  have hr : ∀ σ : Sg, getS σ 0 = some x → evi (phi U (n + 1)) (.range1 (.bi .len (.x 0))) σ S = .ok ([], natsV (List.range ms.length)) S := fun σ h => by
    simp [h, bi_len_of hx]
    rw [rng1V_int (by omega), rng_nat]
  refine wp_cons ?_
  simp only [startS, ex_set, wp_bind, evg_x, nxG_ok]
  rw [lc_map (w := ([], natsV (List.range ms.length))) (hr _ rfl) (by simp [line]; omega) (fun v => v) fun x hx => ⟨_, rfl, by simp⟩]
  simp
  refine wp_cons (wp_forS ?_)
  rw [hr _ rfl]
  simp only [wp_ok]
  refine wp_for (fun xs σ T => ∃ L, T = S ∧ σ = [some x, some (.lst (natsV L)), none, none, none] ∧ LotOk ms L ∧ itL ms xs.length L = trapL ms) ?_ ?_ ?_ ?_
  · rintro xs σ T _
    exact stand_nil _ _
  · rintro v xs σ T ⟨L, rfl, rfl, hL, hi⟩
    simp
    refine wp_last ?_
    simp only [ex_set, wp_bind, evg_x, nxG_ok]
    rw [lc_filter (w := ([.lst (natsV L)], natsV L)) (by simp) (by have := hL.len; simp [line]; omega) (fun v => match v with | .int p => (ms.getD p.toNat []).any fun r => staysB r L | _ => false) (fun v => v) fun v hv => by
      obtain ⟨p, hp, rfl⟩ := List.mem_map.mp hv
      have hlt := hL.lt p hp
      obtain ⟨rs, h1, h2, h3⟩ := row_at hlt
      obtain ⟨e1, e2, e3⟩ := ok.each rs h3
      refine ⟨_, rfl, ?_, fun _ => by simp⟩
      simp
      rw [lc_filter (w := ([rowsV rs], rs.map rowV)) (by
          simp
          rw [index_of hx (atI_nat (k := p) (by rw [List.getElem?_map, h1]; rfl))]
          simp [rowsV]) (by simp [line]; omega) (fun v => match rowOf v with | some r => staysB r L | none => false) (fun _ => .int 1) fun w hw => by
        obtain ⟨r, hr', rfl⟩ := List.mem_map.mp hw
        refine ⟨_, rfl, ?_, fun _ => by simp⟩
        simp
        rw [L_stays_spec (x := .lst (natsV L)) rfl (fun q hq => by rw [(e3 r hr').1.len]; exact hL.lt q hq) (by have := hL.len; omega)]
        simp]
      simp [h1, line]
      rw [List.filter_map]
      have : ∀ l : List Row, (List.map rowV (l.filter ((fun v => match rowOf v with | some r => staysB r L | none => false) ∘ rowV))).isEmpty = !(l.any fun r => staysB r L) := fun l => by
        induction l with
        | nil => rfl
        | cons a l ih =>
          simp only [List.filter_cons, Function.comp_def, rowOf_rowV, List.any_cons] at ih ⊢
          cases staysB a L with
          | true => simp
          | false => simpa using ih
      rw [this]]
    simp only [mkL_false, wp_ok, setS_succ, setS_zero, mask_some, mask_none, mask_nil, List.map_id']
    refine ⟨by trivial, stepL ms L, ?_, hL.step, hi⟩
    congr 4
    rw [stepL, natsV, natsV, List.filter_map]
    rfl
  · rintro σ T ⟨L, rfl, rfl, hL, hi⟩
    simp
    refine wp_last ?_
    simp only [List.length_nil, itL] at hi
    simp [wOut, hi]
  · exact ⟨_, rfl, by simp, LotOk.all ms, by simp [trapL]⟩
/-- all plans -/
def plansL : List (List Row) → List (List Nat) → List (List Nat)
  | [], F => F
  | rs :: ms, F => plansL ms (F.flatMap fun p => (List.range rs.length).map fun k => p ++ [k])
theorem flatMap_len {rs : List Row} (h3 : rs.length ≤ 3) (F : List (List Nat)) : (F.flatMap fun p => (List.range rs.length).map fun k => p ++ [k]).length ≤ 3 * F.length := by
  induction F with
  | nil => simp
  | cons a F ih =>
    simp only [List.flatMap_cons, List.length_append, List.length_map, List.length_range, List.length_cons]
    omega
theorem L_plans_spec [K_L_plans U] {ms : List (List Row)} (h4 : ms.length ≤ 8) (h3 : ∀ rs ∈ ms, rs.length ≤ 3) : phi U (n + 1) 376 [movesV ms] S = .ok (.lst ((plansL ms [[]]).map fun p => .tup (natsV p))) S := by
  refine wp.to (wp_fn K_L_plans.h376 rfl ?_)
  unfold b_L_plans
  refine wp_cons ?_
  simp [startS, line]
  refine wp_cons (wp_forS ?_)
  simp [movesV]
  refine wp_for (fun xs σ T => ∃ (ms' : List (List Row)) (F : List (List Nat)), xs = ms'.map rowsV ∧ T = S ∧ σ = [some (movesV ms), some (.lst (F.map fun p => .tup (natsV p))), none, none, none, none] ∧ (∀ rs ∈ ms', rs.length ≤ 3) ∧ F.length * 3 ^ ms'.length ≤ 6561 ∧ (∀ p ∈ F, p.length + ms'.length = ms.length) ∧ plansL ms' F = plansL ms [[]]) ?_ ?_ ?_ ?_
  · rintro xs σ T _
    exact stand_lf _ _ (by simp [lfs_map, pl_lf])
  · rintro x xs σ T ⟨ms', F, hxs, rfl, rfl, hr, hb, hp, he⟩
    cases ms' with
    | nil => cases hxs
    | cons rs ms' =>
      simp only [List.map_cons, List.cons.injEq] at hxs
      obtain ⟨rfl, rfl⟩ := hxs
      have hF : F.length * 3 ≤ 6561 := by
        have h1 : 1 ≤ 3 ^ ms'.length := Nat.one_le_pow _ _ (by decide)
        rw [List.length_cons, Nat.pow_succ] at hb
        calc F.length * 3 = F.length * (1 * 3) := by omega
          _ ≤ F.length * (3 ^ ms'.length * 3) := Nat.mul_le_mul_left _ (Nat.mul_le_mul_right _ h1)
          _ ≤ 6561 := hb
      simp
      refine wp_cons ?_
      simp
      refine wp_cons (wp_forS ?_)
      simp
      have h3' : rs.length ≤ 3 := hr rs List.mem_cons_self
      refine wp_for (fun ys σ T' => ∃ (F' acc : List (List Nat)), ys = F'.map (fun p => .tup (natsV p)) ∧ T' = T ∧ σ = [some (movesV ms), some (.lst (F.map fun p => .tup (natsV p))), some (rowsV rs), some (.lst (acc.map fun p => .tup (natsV p))), none, none] ∧ acc.length + 3 * F'.length ≤ 6561 ∧ (∀ p ∈ F', p.length ≤ 8) ∧ acc ++ F'.flatMap (fun p => (List.range rs.length).map fun k => p ++ [k]) = F.flatMap fun p => (List.range rs.length).map fun k => p ++ [k]) ?_ ?_ ?_ ?_
      · rintro xs σ T' _
        exact stand_lf _ _ (by simp [lfs_map])
      · rintro y ys σ T' ⟨F', acc, hys, rfl, rfl, hlen, hp8, hacc⟩
        cases F' with
        | nil => cases hys
        | cons q F' =>
          simp only [List.map_cons, List.cons.injEq] at hys
          obtain ⟨rfl, rfl⟩ := hys
          have hq8 := hp8 q List.mem_cons_self
          simp
          refine wp_last ?_
          simp only [ex_set, ev_bin, ev_x, getS_succ, getS_zero, ofO_some, bind_ok', evg_x, nxG_ok, wp_bind, wp_ok]
          rw [lc_map (w := ([], natsV (List.range rs.length))) (by
              simp [rowsV]
              rw [rng1V_int (by omega), rng_nat]) (by simp [line]; omega) (fun v => match v with | .int k => .tup (natsV (q ++ [k.toNat])) | v => v) fun v hv => by
            obtain ⟨k, hk, rfl⟩ := List.mem_map.mp hv
            refine ⟨_, rfl, ?_⟩
            simp [line]
            rw [add_tup (by simp [line]; omega)]
            simp [natsV]]
          simp only [mkL_false, wp_ok]
          rw [add_lst (by simp at hlen ⊢; simp [line]; omega)]
          simp only [mkL_false, wp_ok, setS_succ, setS_zero, mask_some, mask_none, mask_nil]
          refine ⟨F', rfl, by trivial, acc ++ (List.range rs.length).map (fun k => q ++ [k]), ?_, by simp at hlen ⊢; omega, fun z hz => hp8 z (List.mem_cons_of_mem _ hz), by simpa using hacc⟩
          simp [natsV, Function.comp_def]
      · rintro σ T' ⟨F', acc, hys, rfl, rfl, _, _, hacc⟩
        cases F' with
        | cons q qs => cases hys
        | nil =>
          simp only [List.flatMap_nil, List.append_nil] at hacc
          subst hacc
          simp
          refine wp_last ?_
          simp
          refine ⟨ms', rfl, _, rfl, fun z hz => hr z (List.mem_cons_of_mem _ hz), ?_, ?_, he⟩
          · have h1 := flatMap_len h3' F
            rw [List.length_cons, Nat.pow_succ, Nat.mul_comm (3 ^ _) 3, ← Nat.mul_assoc] at hb
            exact Nat.le_trans (Nat.mul_le_mul_right _ (by omega)) hb
          · intro p hp'
            obtain ⟨z, hz, hp'⟩ := List.mem_flatMap.mp hp'
            obtain ⟨k, hk, rfl⟩ := List.mem_map.mp hp'
            have := hp z hz
            simp at this ⊢
            omega
      · exact ⟨F, [], rfl, rfl, rfl, by simp; omega, fun p h => by have := hp p h; simp at this; omega, by simp⟩
  · rintro σ T ⟨ms', F, hxs, rfl, rfl, _, _, _, he⟩
    cases ms' with
    | cons q qs => cases hxs
    | nil =>
      simp
      refine wp_last ?_
      simp only [plansL] at he
      subst he
      simp [wOut, lfs_map]
  · exact ⟨ms, [[]], rfl, rfl, rfl, h3, by
      have : 3 ^ ms.length ≤ 3 ^ 8 := Nat.pow_le_pow_right (by decide) h4
      simp; omega, by simp, rfl⟩
end
end Sv
end

section
set_option linter.all false
set_option maxRecDepth 10000
/-! drawn houses -/
namespace Sv
open PySem
/-- _law_house_rows: 0 _law_draw, 1 _law_many, 2 _law_is_leaky, 3 _law_found, 4 _law_place, 5 _law_some, 6 _law_lap, 7 _law_line, 8 _law_lost, 9 _law_spot -/
def b_L_house_rows : Ts := (.cons (.set (.x 3) (.lst true .nil)) (.cons (.for (.x 4) (.range1 (.x 1)) (.cons (.set (.x 5) (.lst true .nil)) (.cons (.for (.x 6) (.range1 (.call 247 (.cons (.x 0) (.cons (.lst false (.cons (.ki 1) (.cons (.ki 2) (.cons (.ki 2) (.cons (.ki 3) .nil))))) .nil)))) (.cons (.set (.x 7) (.lc true [9] (.x 9) (.range1 (.x 1)) .none (.call 247 (.cons (.x 0) (.cons (.lst false (.cons (.ki 0) (.cons (.ki 0) (.cons (.ki 0) (.cons (.ki 1) (.cons (.ki 1) (.cons (.ki 2) .nil))))))) .nil))))) (.cons (.set (.x 8) (.ite (.v (.x 2)) (.bin .add false (.ki 1) (.call 246 (.cons (.x 0) (.cons (.ki 3) .nil)))) (.call 247 (.cons (.x 0) (.cons (.lst false (.cons (.ki 0) (.cons (.ki 0) (.cons (.ki 0) (.cons (.ki 0) (.cons (.ki 1) .nil)))))) .nil))))) (.cons (.augIx (.x 7) (.call 246 (.cons (.x 0) (.cons (.x 1) .nil))) (.bi .int (.cmp .eq (.bin .add false (.bi .sum (.x 7)) (.x 8)) (.ki 0)))) (.cons (.ifs (.v (.cmp .eq (.call 246 (.cons (.x 0) (.cons (.ki 3) .nil))) (.ki 0))) (.cons (.set (.x 7) (.lc true [9] (.x 9) (.range1 (.x 1)) .none (.bi .int (.cmp .eq (.x 9) (.call 246 (.cons (.x 0) (.cons (.x 1) .nil))))))) (.cons (.augIx (.x 7) (.x 4) (.bi .int (.cmp .eq (.bin .add false (.bi .sum (.x 7)) (.x 8)) (.ki 0)))) .nil)) .nil) (.cons (.app (.x 5) (.call 257 (.cons (.bin .add false (.bi .sum (.x 7)) (.x 8)) (.cons (.x 7) .nil)))) .nil)))))) (.cons (.app (.x 3) (.bi .tuple (.x 5))) .nil)))) (.cons (.ret (.bi .tuple (.x 3))) .nil)))
def d_L_house_rows : FD := .fn 3 10 b_L_house_rows
class K_L_house_rows (U : Nat → Option FD) : Prop extends K_L_pair U, K_L_pick U, K_L_take U where
  h375 : U 375 = some d_L_house_rows
/-- _law_scaled_moves: 0 _law_draw, 1 _law_moves, 2 _law_found, 3 _law_some, 4 _law_rows, 5 _law_total, 6 _law_line, 7 _law_factor, 8 _law_item -/
def b_L_scaled_moves : Ts := (.cons (.set (.x 2) (.lst true .nil)) (.cons (.for (.x 3) (.e (.x 1)) (.cons (.set (.x 4) (.lst true .nil)) (.cons (.for (.tup (.cons (.x 5) (.cons (.x 6) .nil))) (.e (.x 3)) (.cons (.set (.x 7) (.call 247 (.cons (.x 0) (.cons (.lst false (.cons (.ki 1) (.cons (.ki 1) (.cons (.ki 2) (.cons (.ki 3) .nil))))) .nil)))) (.cons (.app (.x 4) (.tup (.cons (.bin .mul false (.x 5) (.x 7)) (.cons (.bi .tuple (.lc false [8] (.x 8) (.e (.x 6)) .none (.bin .mul false (.x 8) (.x 7)))) .nil)))) .nil))) (.cons (.app (.x 2) (.ite (.v (.cmp .eq (.call 246 (.cons (.x 0) (.cons (.ki 2) .nil))) (.ki 0))) (.x 4) (.bi .tuple (.x 4)))) .nil)))) (.cons (.ret (.ite (.v (.cmp .eq (.call 246 (.cons (.x 0) (.cons (.ki 2) .nil))) (.ki 0))) (.x 2) (.bi .tuple (.x 2)))) .nil)))
def d_L_scaled_moves : FD := .fn 2 9 b_L_scaled_moves
class K_L_scaled_moves (U : Nat → Option FD) : Prop extends K_L_pick U, K_L_take U where
  h382 : U 382 = some d_L_scaled_moves
/-- _law_bad_house: 0 _law_draw, 1 _law_moves -/
def b_L_bad_house : Ts := (.cons (.ret (.call 247 (.cons (.x 0) (.cons (.lst false (.cons .kn (.cons (.x 1) (.cons (.bl .list false (.x 1)) (.cons (.ki 5) (.cons (.ks "house") (.cons (.tup .nil) (.cons (.dct [] .nil) .nil)))))))) .nil)))) .nil)
def d_L_bad_house : FD := .fn 2 2 b_L_bad_house
class K_L_bad_house (U : Nat → Option FD) : Prop extends K_L_pick U where
  h379 : U 379 = some d_L_bad_house
/-- _law_bad_plan: 0 _law_draw, 1 _law_plan, 2 _law_spot, 3 _law_odd, 4 _law_bent -/
def b_L_bad_plan : Ts := (.cons (.set (.x 2) (.call 246 (.cons (.x 0) (.cons (.bi .len (.x 1)) .nil)))) (.cons (.set (.x 3) (.call 247 (.cons (.x 0) (.cons (.lst false (.cons (.ki 3) (.cons (.neg (.ki 1)) (.cons .kn (.cons (.ks "0") (.cons (.tup (.cons (.ki 0) .nil)) (.cons (.ki 9) (.cons (.kb false) .nil)))))))) .nil)))) (.cons (.set (.x 4) (.bin .add false (.bin .add false (.slc false (.x 1) .none (.some (.x 2))) (.tup (.cons (.x 3) .nil))) (.slc false (.x 1) (.some (.bin .add false (.x 2) (.ki 1))) .none))) (.cons (.ret (.call 247 (.cons (.x 0) (.cons (.lst false (.cons .kn (.cons (.bl .list false (.x 1)) (.cons (.slc false (.x 1) (.some (.ki 1)) .none) (.cons (.bin .add false (.x 1) (.tup (.cons (.ki 0) .nil))) (.cons (.ki 5) (.cons (.x 4) (.cons (.x 4) (.cons (.x 4) .nil))))))))) .nil)))) .nil))))
def d_L_bad_plan : FD := .fn 2 5 b_L_bad_plan
class K_L_bad_plan (U : Nat → Option FD) : Prop extends K_L_pick U, K_L_take U where
  h380 : U 380 = some d_L_bad_plan
/-- _law_bad_moves: 0 _law_draw, 1 _law_moves, 2 _law_spot, 3 _law_many, 4 _law_row, 5 _law_rows, 6 _law_bent, 7 _law_some -/
def b_L_bad_moves : Ts := (.cons (.par [2, 3] (.cons (.call 246 (.cons (.x 0) (.cons (.bi .len (.x 1)) .nil))) (.cons (.bi .len (.x 1)) .nil))) (.cons (.set (.x 4) (.idx (.idx (.x 1) (.x 2)) (.ki 0))) (.cons (.set (.x 5) (.lst false (.cons (.tup (.cons (.ki 0) (.cons (.bin .mul false (.tup (.cons (.ki 0) .nil)) (.x 3)) .nil))) (.cons (.tup (.cons (.ki 1) (.cons (.bin .add false (.bin .mul false (.tup (.cons (.ki 1) .nil)) (.x 3)) (.tup (.cons (.ki 0) .nil))) .nil))) (.cons (.tup (.cons (.ki 1) (.cons (.bin .mul false (.lst false (.cons (.ki 0) .nil)) (.x 3)) .nil))) (.cons (.lst false (.cons (.ki 1) (.cons (.bin .mul false (.tup (.cons (.ki 0) .nil)) (.x 3)) .nil))) (.cons (.tup (.cons (.ki 1) (.cons (.bin .mul false (.tup (.cons (.ki 0) .nil)) (.x 3)) (.cons (.ki 0) .nil)))) (.cons .kn .nil)))))))) (.cons (.set (.x 5) (.bin .add false (.x 5) (.lst false (.cons (.tup (.cons (.kb true) (.cons (.bin .mul false (.tup (.cons (.ki 0) .nil)) (.x 3)) .nil))) (.cons (.tup (.cons (.ki 1) (.cons (.bin .add false (.tup (.cons (.kb true) .nil)) (.bin .mul false (.tup (.cons (.ki 0) .nil)) (.bin .sub false (.x 3) (.ki 1)))) .nil))) (.cons (.tup (.cons (.ki 1) (.cons (.bin .add false (.tup (.cons (.neg (.ki 1)) .nil)) (.bin .mul false (.tup (.cons (.ki 0) .nil)) (.bin .sub false (.x 3) (.ki 1)))) .nil))) (.cons (.tup (.cons (.ki 2) (.cons (.bin .add false (.tup (.cons (.ki 3) .nil)) (.bin .mul false (.tup (.cons (.ki 0) .nil)) (.bin .sub false (.x 3) (.ki 1)))) .nil))) .nil))))))) (.cons (.set (.x 6) (.bin .add false (.bin .add false (.slc false (.x 1) .none (.some (.x 2))) (.tup (.cons (.bin .add false (.slc false (.idx (.x 1) (.x 2)) .none (.some (.ki 2))) (.tup (.cons (.call 247 (.cons (.x 0) (.cons (.x 5) .nil))) .nil))) .nil))) (.slc false (.x 1) (.some (.bin .add false (.x 2) (.ki 1))) .none))) (.cons (.set (.x 7) (.lst false (.cons .kn (.cons (.tup .nil) (.cons (.ki 5) (.cons (.bin .add false (.x 1) (.slc false (.x 1) .none (.some (.ki 1)))) (.cons (.bin .add false (.bin .add false (.slc false (.x 1) .none (.some (.x 2))) (.tup (.cons (.tup .nil) .nil))) (.slc false (.x 1) (.some (.bin .add false (.x 2) (.ki 1))) .none)) (.cons (.ks "moves") (.cons (.dct [] .nil) (.cons (.bin .add false (.bin .add false (.slc false (.x 1) .none (.some (.x 2))) (.tup (.cons (.x 4) .nil))) (.slc false (.x 1) (.some (.bin .add false (.x 2) (.ki 1))) .none)) .nil)))))))))) (.cons (.ret (.call 247 (.cons (.x 0) (.cons (.bin .add false (.x 7) (.lst false (.cons (.bin .add false (.bin .add false (.slc false (.x 1) .none (.some (.x 2))) (.tup (.cons (.tup (.cons (.x 4) (.cons (.x 4) (.cons (.x 4) (.cons (.x 4) .nil))))) .nil))) (.slc false (.x 1) (.some (.bin .add false (.x 2) (.ki 1))) .none)) (.cons (.x 6) (.cons (.x 6) (.cons (.x 6) (.cons (.x 6) (.cons (.x 6) .nil)))))))) .nil)))) .nil)))))))
def d_L_bad_moves : FD := .fn 2 8 b_L_bad_moves
class K_L_bad_moves (U : Nat → Option FD) : Prop extends K_L_pick U, K_L_take U where
  h381 : U 381 = some d_L_bad_moves
/-! ### stores -/
section
variable {d : Dw} {A B C R : Store} {i : Nat} {xs : List PV} {v : PV}
theorem pre_app (h : A <+: B) : A <+: B ++ C := h.trans (List.prefix_append B C)
theorem pre_get {c : Cl} (h : A <+: B) (e : A[i]? = some c) : B[i]? = some c := by
  obtain ⟨G, rfl⟩ := h
  rw [List.getElem?_append_left (List.getElem?_eq_some_iff.mp e).1]
  exact e
theorem pre_set {c : Cl} (h : A <+: B) (hi : A.length ≤ i) : A <+: B.set i c := by
  obtain ⟨G, rfl⟩ := h
  rw [List.set_append_right _ _ hi]
  exact List.prefix_append _ _
theorem pre_len (h : A <+: B) : A.length ≤ B.length := h.length_le
theorem new_at {c : Cl} : (R ++ [c])[R.length]? = some c := by simp
theorem set_at {c c' : Cl} (e : R[i]? = some c') : (R.set i c)[i]? = some c := by
  have := (List.getElem?_eq_some_iff.mp e).1
  simp [this]
theorem items_dS (e : R[i]? = some (.lst xs)) : items (.loc (i + 2)) (dS d R) = some xs := items_loc e
theorem isLst_dS (e : R[i]? = some (.lst xs)) : isLst (.loc (i + 2)) (dS d R) = true := isLst_loc e
theorem locL_dS (e : R[i]? = some (.lst xs)) : locL (.loc (i + 2)) (dS d R) = true := locL_loc e
theorem app_dS (e : R[i]? = some (.lst xs)) (h : xs.length < line) : app (.loc (i + 2)) v (dS d R) = some (dS d (R.set i (.lst (xs ++ [v])))) := by
  have e' : (dS d R)[i + 2]? = some (.lst xs) := e
  simp only [app, e', if_pos h]
  rfl
theorem setIx_dS {k : Nat} (e : R[i]? = some (.lst xs)) (h : k < xs.length) : setIx (.loc (i + 2)) (.int k) v (dS d R) = some (dS d (R.set i (.lst (xs.set k v)))) := by
  have e' : (dS d R)[i + 2]? = some (.lst xs) := e
  simp only [setIx, e', ixN]
  simp [h]
theorem setIx_dS' {k : Int} (e : R[i]? = some (.lst xs)) (h0 : 0 ≤ k) (h : k < xs.length) : setIx (.loc (i + 2)) (.int k) v (dS d R) = some (dS d (R.set i (.lst (xs.set k.toNat v)))) := by
  have := setIx_dS (d := d) (v := v) (k := k.toNat) e (by omega)
  rwa [Int.toNat_of_nonneg h0] at this
end
section
variable {U : Nat → Option FD} {n m : Nat} {d : Dw} {R : Store} {Φ : Phi}
/-- numbers drawn one by one -/
theorem wp_drawn {mm : Bool} {own : List Nat} {tg : Tg} {it : It} {e : E} {σ : Sg} {xs : List PV} {Q : PV → Store → Prop} {E : PV → Store → Prop} (hi : evi Φ it σ (dS d R) = .ok ([], xs) (dS d R)) (hl : xs.length ≤ line) (h : Dok (m + xs.length) d) (P : Int → Prop)
    (hs : ∀ x ∈ xs, ∀ k d', Dok (k + 1) d' → ∃ σ1, evg Φ tg x (wipeS σ own) (dS d' R) = .ok σ1 (dS d' R) ∧ wp (ev Φ e σ1 (dS d' R)) (fun w T => (∃ i : Int, w = .int i ∧ P i) ∧ ∃ d'', T = dS d'' R ∧ Dok k d'') ff)
    (hq : ∀ (l : List Int) d', l.length = xs.length → (∀ i ∈ l, P i) → Dok m d' → wp (mkL mm (l.map .int) (dS d' R)) Q E) : wp (ev Φ (.lc mm own tg it .none e) σ (dS d R)) Q E := by
  rw [ev_lc, hi, bind_ok', lenG_of hl, wp_bind]
  refine wp_lc (fun ys acc T => ∃ (l : List Int) (d' : Dw), acc = l.map .int ∧ T = dS d' R ∧ Dok (m + ys.length) d' ∧ (∀ i ∈ l, P i) ∧ l.length + ys.length = xs.length ∧ ∀ y ∈ ys, y ∈ xs) ?_ ?_ ?_ ⟨[], d, rfl, rfl, h, fun _ h => (by cases h), by simp, fun _ h => h⟩
  · intro _ _ _ _
    exact stand_nil _ _
  · rintro x ys acc T ⟨l, d', rfl, rfl, hd, hP, hlen, hin⟩
    obtain ⟨σ1, h1, h2⟩ := hs x (hin x List.mem_cons_self) (m + ys.length) d' (by simpa [Nat.add_assoc] using hd)
    rw [h1]
    simp only [wp_ok, evc_none, cond_true]
    refine wp.mono h2 ?_
    rintro w T ⟨⟨i, rfl, hi⟩, d'', rfl, hd''⟩
    refine ⟨l ++ [i], d'', by simp, rfl, hd'', fun j hj => ?_, by simp at hlen ⊢; omega, fun y hy => hin y (List.mem_cons_of_mem _ hy)⟩
    rcases List.mem_append.mp hj with hj | hj
    · exact hP j hj
    · simp at hj; subst hj; exact hi
  · rintro acc T ⟨l, d', rfl, rfl, hd, hP, hlen, _⟩
    exact hq l d' (by simpa using hlen) hP (by simpa using hd)
theorem some_many_spec [K_L_some_many U] (h : Dok (m + 1) d) {b : Int} (hb : 1 ≤ b) : wp (phi U (n + 4) 258 [.loc 1, .int b] (dS d R)) (fun v S => ∃ (k : Nat) (d' : Dw), v = .int k ∧ 1 ≤ k ∧ (k : Int) ≤ b ∧ k ≤ 8 ∧ S = dS d' R ∧ Dok m d') ff := by
  refine wp_fn K_L_some_many.h258 rfl ?_
  unfold b_L_some_many
  refine wp_last ?_
  simp only [ex_ret, ev_call, evs_cons, evs_nil, wp_bind, startS, List.map_cons, List.map_nil, List.length_cons, List.length_nil, List.replicate, List.cons_append, List.nil_append, Nat.reduceAdd, Nat.reduceSub, ev_x, getS_zero, ofO_some, wp_ok]
  rw [lc_filter (w := ([.lst ([1, 2, 2, 3, 3, 3, 4, 4, 5, 6, 8].map .int)], [1, 2, 2, 3, 3, 3, 4, 4, 5, 6, 8].map .int)) (by simp [line]) (by simp [line]) (fun v => match v with | .int k => decide (k ≤ b) | _ => false) (fun v => v) fun v hv => by
    obtain ⟨k, hk, rfl⟩ := List.mem_map.mp hv
    refine ⟨_, rfl, ?_, fun _ => by simp⟩
    simp]
  simp only [mkL_false, wp_ok, List.map_id']
  refine wp.mono (pick_lf h (lfs_of fun x hx => ?_) ?_ ?_) ?_
  · obtain ⟨k, _, rfl⟩ := List.mem_map.mp (List.mem_filter.mp hx).1
    rfl
  · intro e
    have : PV.int 1 ∈ ([1, 2, 2, 3, 3, 3, 4, 4, 5, 6, 8].map PV.int).filter (fun v => match v with | .int k => decide (k ≤ b) | _ => false) := List.mem_filter.mpr ⟨by simp, by simpa using hb⟩
    rw [e] at this
    cases this
  · exact Nat.le_trans (List.length_filter_le _ _) (by simp)
  · rintro v T ⟨hv, d', rfl, hd⟩
    obtain ⟨h1, h2⟩ := List.mem_filter.mp hv
    obtain ⟨k, hk, rfl⟩ := List.mem_map.mp h1
    have h2 : k ≤ b := by simpa using h2
    have h3 : 1 ≤ k ∧ k ≤ 8 := by
      simp only [List.mem_cons, List.not_mem_nil, or_false] at hk
      omega
    simp only [wOut]
    refine wp_leave (List.prefix_refl R) (frz_lf rfl) ⟨k.toNat, d', ?_, by omega, by omega, by omega, rfl, hd⟩
    rw [Int.toNat_of_nonneg (by omega)]
end
/-! ### rows without common divisors -/
theorem gcdL_dvd {l : List Int} {a : Int} (h : a ∈ l) : (gcdL l : Int) ∣ a := by
  induction l with
  | nil => cases h
  | cons b l ih =>
    rw [gcdL_cons]
    rcases List.mem_cons.mp h with rfl | h
    · exact Int.ofNat_dvd_left.mpr (Nat.gcd_dvd_left _ _)
    · exact Int.dvd_trans (Int.natCast_dvd_natCast.mpr (Nat.gcd_dvd_right _ _)) (ih h)
theorem gcdL_mul (f : Nat) : ∀ l : List Int, gcdL (l.map fun x => x * (f : Int)) = gcdL l * f
  | [] => by simp [gcdL]
  | a :: l => by
    rw [List.map_cons, gcdL_cons, gcdL_cons, gcdL_mul f l, Int.natAbs_mul, Int.natAbs_natCast, Nat.gcd_mul_right]
theorem div_mul_map {g : Nat} {l : List Int} (h : ∀ a ∈ l, (g : Int) ∣ a) : (l.map fun x => x / (g : Int)).map (fun x => x * (g : Int)) = l := by
  rw [List.map_map]
  refine (List.map_congr_left fun a ha => ?_).trans (List.map_id _)
  exact Int.ediv_mul_cancel (h a ha)
theorem lpair_red {s : Int} {l : List Int} (h : 0 < s) : gcdL ((lpair s l).1 :: (lpair s l).2) = 1 := by
  have hg := gcdL_pos (l := l) h
  have e : (((lpair s l).1 :: (lpair s l).2).map fun x => x * ((gcdL (s :: l) : Nat) : Int)) = s :: l := by
    have := div_mul_map (g := gcdL (s :: l)) (l := s :: l) fun a ha => gcdL_dvd ha
    simpa [lpair] using this
  have h2 := gcdL_mul (gcdL (s :: l)) ((lpair s l).1 :: (lpair s l).2)
  rw [e] at h2
  exact Nat.eq_of_mul_eq_mul_right hg (by omega)
theorem lpair_scaled {t f : Int} {l : List Int} (h : gcdL (t :: l) = 1) (ht : 0 < t) (hf : 0 < f) : lpair (t * f) (l.map fun x => x * f) = (t, l) := by
  obtain ⟨k, rfl⟩ := Int.eq_ofNat_of_zero_le (Int.le_of_lt hf)
  have e : gcdL (t * (k : Int) :: l.map fun x => x * (k : Int)) = k := by
    have := gcdL_mul k (t :: l)
    rw [h, Nat.one_mul] at this
    exact this
  unfold lpair
  rw [e, Int.mul_ediv_cancel _ (by omega)]
  congr 1
  rw [List.map_map]
  refine (List.map_congr_left fun a _ => ?_).trans (List.map_id _)
  exact Int.mul_ediv_cancel _ (by omega)
theorem lpR_red {r : Row} (h : gcdL (r.1 :: r.2) = 1) : lpR r = r := by
  obtain ⟨t, l⟩ := r
  dsimp only at h
  unfold lpR lpair
  dsimp only
  rw [h]
  simp
theorem sum_mul (g : Int) : ∀ l : List Int, (l.map fun x => x * g).sum = l.sum * g
  | [] => by simp
  | a :: l => by simp [sum_mul g l, Int.add_mul]
theorem RowOk_lpair {many : Nat} {s : Int} {l : List Int} (h : 0 < s) (hl : l.length = many) (hn : ∀ x ∈ l, 0 ≤ x) (hs : l.sum ≤ s) : RowOk many (lpair s l) := by
  have hg := gcdL_pos (l := l) h
  have hd := gcdL_dvd (l := s :: l) (a := s) List.mem_cons_self
  have e := div_mul_map (g := gcdL (s :: l)) (l := l) fun a ha => gcdL_dvd (List.mem_cons_of_mem _ ha)
  have e1 : s / (gcdL (s :: l) : Int) * (gcdL (s :: l) : Int) = s := Int.ediv_mul_cancel hd
  refine ⟨?_, by simp [lpair, hl], fun x hx => ?_, ?_⟩
  · show 1 ≤ s / (gcdL (s :: l) : Int)
    have := Int.ediv_pos_of_pos_of_dvd h (by omega) hd
    omega
  · obtain ⟨a, ha, rfl⟩ := List.mem_map.mp hx
    exact Int.ediv_nonneg (hn a ha) (by omega)
  · show (l.map fun x => x / (gcdL (s :: l) : Int)).sum ≤ s / (gcdL (s :: l) : Int)
    have h2 : (l.map fun x => x / (gcdL (s :: l) : Int)).sum * (gcdL (s :: l) : Int) = l.sum := by rw [← sum_mul, e]
    refine Int.le_of_mul_le_mul_right ?_ (show (0 : Int) < (gcdL (s :: l) : Int) by omega)
    rw [h2, e1]
    exact hs
theorem lpair_le {s : Int} {l : List Int} (h : 0 < s) : (lpair s l).1 ≤ s := Int.ediv_le_self _ (Int.le_of_lt h)
structure RowGood (many : Nat) (r : Row) : Prop where
  ok : RowOk many r
  red : gcdL (r.1 :: r.2) = 1
  le : r.1 ≤ 1000
theorem RowGood.lt {many : Nat} {r : Row} (h : RowGood many r) : r.1.natAbs < divLine := by
  have h1 := h.ok.pos
  have h2 := h.le
  have : (1000 : Nat) < divLine := by
    unfold divLine
    calc (1000 : Nat) < 2 ^ 10 := by decide
      _ ≤ 2 ^ 9000 := Nat.pow_le_pow_right (by decide) (by decide)
  omega
theorem RowGood_lpair {many : Nat} {s : Int} {l : List Int} (h : 0 < s) (hl : l.length = many) (hn : ∀ x ∈ l, 0 ≤ x) (hs : l.sum ≤ s) (h3 : s ≤ 1000) : RowGood many (lpair s l) := ⟨RowOk_lpair h hl hn hs, lpair_red h, Int.le_trans (lpair_le h) h3⟩
/-- the moves of one place -/
def AllG (many : Nat) (rs : List Row) : Prop := ∀ r ∈ rs, RowGood many r
def RsG (many : Nat) (rs : List Row) : Prop := 1 ≤ rs.length ∧ rs.length ≤ 3 ∧ AllG many rs
structure Good (ms : List (List Row)) : Prop where
  one : 1 ≤ ms.length
  eight : ms.length ≤ 8
  each : ∀ rs ∈ ms, 1 ≤ rs.length ∧ rs.length ≤ 3 ∧ ∀ r ∈ rs, RowGood ms.length r
theorem Good.ok {ms : List (List Row)} (h : Good ms) : MovesOk ms := ⟨h.one, h.eight, fun rs hrs => ⟨(h.each rs hrs).1, (h.each rs hrs).2.1, fun r hr => ⟨((h.each rs hrs).2.2 r hr).ok, ((h.each rs hrs).2.2 r hr).lt⟩⟩⟩
theorem Good.red {ms : List (List Row)} (h : Good ms) : (ms.map fun rs => rs.map lpR) = ms := by
  refine (List.map_congr_left fun rs hrs => ?_).trans (List.map_id _)
  refine (List.map_congr_left fun r hr => ?_).trans (List.map_id _)
  exact lpR_red ((h.each rs hrs).2.2 r hr).red
theorem sum_le_of {b : Int} : ∀ {l : List Int}, (∀ x ∈ l, x ≤ b) → l.sum ≤ b * l.length
  | [], _ => by simp
  | a :: l, h => by
    have h1 := h a List.mem_cons_self
    have h2 := sum_le_of fun x hx => h x (List.mem_cons_of_mem _ hx)
    simp only [List.sum_cons, List.length_cons]
    have : b * ((l.length : Nat) + 1 : Nat) = b * l.length + b := by rw [Int.natCast_add, Int.mul_add]; simp
    omega
theorem sum_nonneg : ∀ {l : List Int}, (∀ x ∈ l, 0 ≤ x) → 0 ≤ l.sum
  | [], _ => by simp
  | a :: l, h => by
    have h1 := h a List.mem_cons_self
    have h2 := sum_nonneg fun x hx => h x (List.mem_cons_of_mem _ hx)
    simp only [List.sum_cons]
    omega
theorem sum_set {k : Nat} {v : Int} : ∀ {l : List Int}, (h : k < l.length) → (l.set k v).sum = l.sum - l[k] + v := by
  induction k with
  | zero => intro l h; cases l with
    | nil => simp at h
    | cons a l => simp; omega
  | succ k ih => intro l h; cases l with
    | nil => simp at h
    | cons a l =>
      simp only [List.set_cons_succ, List.sum_cons, List.getElem_cons_succ]
      rw [ih (by simpa using h)]
      omega
section
variable {U : Nat → Option FD} {n m : Nat} {d : Dw} {R : Store} {Φ : Phi}
@[simp] theorem augI_int {a b : Int} : augI (.int a) (.int b) = some (.int (a + b)) := (rfl)
theorem aug_ok {l : List Int} {k : Nat} {lost : Int} (hk : k < l.length) (hl : ∀ x ∈ l, 0 ≤ x ∧ x ≤ 2) (h0 : 0 ≤ lost) : (l.set k (l[k] + b2i (decide (l.sum + lost = 0)))).length = l.length ∧ (∀ x ∈ l.set k (l[k] + b2i (decide (l.sum + lost = 0))), 0 ≤ x ∧ x ≤ 3) ∧ 1 ≤ (l.set k (l[k] + b2i (decide (l.sum + lost = 0)))).sum + lost := by
  have hs := sum_nonneg fun x hx => (hl x hx).1
  have hb : 0 ≤ b2i (decide (l.sum + lost = 0)) ∧ b2i (decide (l.sum + lost = 0)) ≤ 1 := by
    cases decide (l.sum + lost = 0) <;> simp [b2i]
  refine ⟨by simp, fun x hx => ?_, ?_⟩
  · rcases List.mem_or_eq_of_mem_set hx with hx | rfl
    · have := hl x hx; omega
    · have := hl _ (List.getElem_mem hk); omega
  · rw [sum_set hk]
    by_cases h : l.sum + lost = 0
    · simp [h, b2i]; omega
    · simp [h, b2i]; omega
theorem map_set_int {l : List Int} {k : Nat} {v : Int} : (l.map PV.int).set k (.int v) = (l.set k v).map PV.int := by simp [List.map_set]
theorem aug_run {σ : Sg} {il : Nat} {l : List Int} {lost : Int} {iE : E} {Q : Fl × Sg → Store → Prop} {E : PV → Store → Prop} (hx : getS σ 7 = some (.loc (il + 2))) (hlost : getS σ 8 = some (.int lost)) (hc : R[il]? = some (.lst (l.map .int))) (hl : ∀ x ∈ l, 0 ≤ x ∧ x ≤ 2) (h0 : 0 ≤ lost)
    (hi : wp (ev Φ iE σ (dS d R)) (fun v T => ∃ (k : Int) (d' : Dw), v = .int k ∧ 0 ≤ k ∧ k < l.length ∧ T = dS d' R ∧ Dok m d') ff)
    (hQ : ∀ (l' : List Int) d', l'.length = l.length → (∀ x ∈ l', 0 ≤ x ∧ x ≤ 3) → 1 ≤ l'.sum + lost → Dok m d' → Q (.nx, σ) (dS d' (R.set il (.lst (l'.map .int))))) :
    wp (exT Φ (.augIx (.x 7) iE (.bi .int (.cmp .eq (.bin .add false (.bi .sum (.x 7)) (.x 8)) (.ki 0)))) σ (dS d R)) Q E := by
  simp only [ex_augIx, ev_x, hx, ofO_some, bind_ok', wp_bind]
  refine wp.mono hi ?_
  rintro v T ⟨k, d', rfl, hk0, hk1, rfl, hd⟩
  have hk : k.toNat < l.length := by omega
  have hat : atI (l.map PV.int) k = some (.int l[k.toNat]) := by
    have := atI_nat (xs := l.map PV.int) (k := k.toNat) (v := .int l[k.toNat]) (by rw [List.getElem?_map, List.getElem?_eq_getElem hk]; rfl)
    rwa [Int.toNat_of_nonneg hk0] at this
  rw [locL_dS hc, lstG_true, wp_bind, index_of (items_dS hc) hat]
  simp only [wp_ok, ev_bi, ev_cmp, ev_bin, ev_x, hx, hlost, ofO_some, bind_ok', wp_bind]
  rw [bi_sum_of (items_dS hc) (ints_map l)]
  simp only [wp_ok, add_int, ev_ki, eq_int, bi_int_bl, augI_int, augV_some]
  rw [setIx_dS' hc hk0 (by simpa using hk1)]
  simp only [nxS_some, wp_ok, map_set_int]
  obtain ⟨h1, h2, h3⟩ := aug_ok hk hl h0
  exact hQ _ d' h1 h2 h3 hd
/-- one lap: a row is drawn -/
theorem lap_spec [K_L_house_rows U] {many place : Nat} {leaky : Bool} {lf is' : Nat} {acc : List PV} {x : PV} (h1 : 1 ≤ many) (h8 : many ≤ 8) (hp : place < many) (h : Dok (m + 60) d) (hc : R[is']? = some (.lst acc)) (hacc : acc.length ≤ 3) {Q : Fl × Sg → Store → Prop} {E : PV → Store → Prop}
    (hQ : ∀ (r : Row) (d' : Dw) (G : Store) (a b : PV), RowGood many r → Dok m d' → Q (.nx, [some (.loc 1), some (.int many), some (.bl leaky), some (.loc lf), some (.int place), some (.loc (is' + 2)), some x, some a, some b, none]) (dS d' (R.set is' (.lst (acc ++ [rowV r])) ++ G))) :
    wp (exs (phi U (n + 3)) (.cons (.set (.x 7) (.lc true [9] (.x 9) (.range1 (.x 1)) .none (.call 247 (.cons (.x 0) (.cons (.lst false (.cons (.ki 0) (.cons (.ki 0) (.cons (.ki 0) (.cons (.ki 1) (.cons (.ki 1) (.cons (.ki 2) .nil))))))) .nil))))) (.cons (.set (.x 8) (.ite (.v (.x 2)) (.bin .add false (.ki 1) (.call 246 (.cons (.x 0) (.cons (.ki 3) .nil)))) (.call 247 (.cons (.x 0) (.cons (.lst false (.cons (.ki 0) (.cons (.ki 0) (.cons (.ki 0) (.cons (.ki 0) (.cons (.ki 1) .nil)))))) .nil))))) (.cons (.augIx (.x 7) (.call 246 (.cons (.x 0) (.cons (.x 1) .nil))) (.bi .int (.cmp .eq (.bin .add false (.bi .sum (.x 7)) (.x 8)) (.ki 0)))) (.cons (.ifs (.v (.cmp .eq (.call 246 (.cons (.x 0) (.cons (.ki 3) .nil))) (.ki 0))) (.cons (.set (.x 7) (.lc true [9] (.x 9) (.range1 (.x 1)) .none (.bi .int (.cmp .eq (.x 9) (.call 246 (.cons (.x 0) (.cons (.x 1) .nil))))))) (.cons (.augIx (.x 7) (.x 4) (.bi .int (.cmp .eq (.bin .add false (.bi .sum (.x 7)) (.x 8)) (.ki 0)))) .nil)) .nil) (.cons (.app (.x 5) (.call 257 (.cons (.bin .add false (.bi .sum (.x 7)) (.x 8)) (.cons (.x 7) .nil)))) .nil))))) [some (.loc 1), some (.int many), some (.bl leaky), some (.loc lf), some (.int place), some (.loc (is' + 2)), some x, none, none, none] (dS d R)) Q E := by
  have hil : is' < R.length := (List.getElem?_eq_some_iff.mp hc).1
  have hrng : ∀ (σ : Sg) (d : Dw) (R : Store), getS σ 1 = some (.int many) → evi (phi U (n + 3)) (.range1 (.x 1)) σ (dS d R) = .ok ([], natsV (List.range many)) (dS d R) := fun σ d R h => by
    simp [h]
    rw [rng1V_int (by omega), rng_nat]
  refine wp_cons ?_
  simp only [ex_set, evg_x, nxG_ok, wp_bind]
  refine wp_drawn (m := m + 50) (hrng _ _ _ rfl) (by simp [line]; omega) (h.mono (by simp; omega)) (fun i => 0 ≤ i ∧ i ≤ 2) (fun y hy k d' hd => ⟨_, rfl, ?_⟩) ?_
  · simp only [ev_call, evs_cons, evs_nil, ev_x, ev_lst, ev_ki, getS_zero, ofO_some, bind_ok', wp_bind, setS_succ, setS_zero, wipeS_cons, wipeS_nil, getS_succ]
    rw [if_pos (by simp [line])]
    simp only [mkL_false, bind_ok', wp_ok]
    refine wp.mono (pick_lf hd (by rfl)) ?_
    rintro v T ⟨hv, d'', rfl, hd''⟩
    simp at hv
    refine ⟨?_, d'', rfl, hd''⟩
    rcases hv with rfl | rfl | rfl | rfl | rfl | rfl <;> exact ⟨_, rfl, by decide⟩
  intro l d1 hl hP hd1
  simp only [natsV_len, List.length_range] at hl
  simp only [mkL_true, dS_len, dS_app, wp_ok, setS_succ, setS_zero, wK_nx]
  refine wp_cons ?_
  simp only [ex_set, evg_x, nxG_ok, wp_bind]
  refine wp.mono (Q := fun v T => ∃ (lost : Int) (d' : Dw), v = .int lost ∧ 0 ≤ lost ∧ lost ≤ 3 ∧ T = dS d' (R ++ [.lst (l.map .int)]) ∧ Dok (m + 48) d') (E := ff) ?_ ?_
  · cases leaky with
    | true =>
      simp
      refine wp.mono (take_spec (m := m + 48) (hd1.mono (by omega)) (by decide) (by decide)) ?_
      rintro v T ⟨r, d', rfl, h0, h1, rfl, hd'⟩
      simp
      exact ⟨by omega, by omega, d', rfl, hd'⟩
    | false =>
      simp [line]
      refine wp.mono (pick_lf (m := m + 48) (hd1.mono (by omega)) (by rfl)) ?_
      rintro v T ⟨hv, d', rfl, hd'⟩
      simp at hv
      rcases hv with rfl | rfl <;> exact ⟨_, rfl, by decide, by decide, d', rfl, hd'⟩
  rintro v T ⟨lost, d2, rfl, hlo, hlo3, rfl, hd2⟩
  simp only [wK_nx, setS_succ, setS_zero]
  refine wp_cons ?_
  refine aug_run (m := m + 47) (il := R.length) (l := l) (lost := lost) rfl rfl new_at hP hlo ?_ ?_
  · simp
    refine wp.mono (take_spec (m := m + 47) (hd2.mono (by omega)) (by omega) (by omega)) ?_
    rintro v T ⟨r, d', rfl, h0, h1, rfl, hd'⟩
    exact ⟨r, rfl, h0, by omega, d', rfl, hd'⟩
  intro l2 d3 hl2 hP2 hs2 hd3
  simp only [set_last, wK_nx]
  -- what follows: the line stands somewhere behind R
  have fin : ∀ (G : Store) (il : Nat) (l3 : List Int) (d4 : Dw) (y : Option PV), (R ++ G)[il]? = some (.lst (l3.map .int)) → l3.length = many → (∀ x ∈ l3, 0 ≤ x ∧ x ≤ 3) → 1 ≤ l3.sum + lost → Dok m d4 →
      wp (exs (phi U (n + 3)) (.cons (.app (.x 5) (.call 257 (.cons (.bin .add false (.bi .sum (.x 7)) (.x 8)) (.cons (.x 7) .nil)))) .nil) [some (.loc 1), some (.int many), some (.bl leaky), some (.loc lf), some (.int place), some (.loc (is' + 2)), some x, some (.loc (il + 2)), some (.int lost), none] (dS d4 (R ++ G))) Q E := by
    intro G il l3 d4 y hil3 hl3 hP3 hs3 hd4
    refine wp_last ?_
    have hc2 : (R ++ G)[is']? = some (.lst acc) := by rw [List.getElem?_append_left hil]; exact hc
    have hsum := sum_le_of fun x hx => (hP3 x hx).2
    simp only [ex_app, ev_x, getS_succ, getS_zero, ofO_some, bind_ok', isLst_dS hc2, lstG_true, ev_call, evs_cons, evs_nil, ev_bin, ev_bi, wp_bind, wp_ok]
    rw [bi_sum_of (items_dS hil3) (ints_map l3)]
    simp only [wp_ok, add_int]
    have hlt : (l3.sum + lost).natAbs < divLine := by
      have : (1000 : Nat) < divLine := by
        unfold divLine
        calc (1000 : Nat) < 2 ^ 10 := by decide
          _ ≤ 2 ^ 9000 := Nat.pow_le_pow_right (by decide) (by decide)
      omega
    rw [L_pair_spec (l := l3) (by omega) hlt (items_dS hil3) (by simp [line]; omega)]
    simp only [wp_ok]
    rw [app_dS hc2 (by simp [line]; omega)]
    simp only [nxS_some, wp_ok]
    rw [List.set_append_left _ _ hil]
    exact hQ (lpair (l3.sum + lost) l3) d4 G _ _ (RowGood_lpair (by omega) hl3 (fun x hx => (hP3 x hx).1) (by omega) (by omega)) hd4
  refine wp_cons ?_
  simp
  refine wp.mono (take_spec (m := m + 46) (hd3.mono (by omega)) (by decide) (by decide)) ?_
  rintro v T ⟨r, d4, rfl, hr0, hr1, rfl, hd4⟩
  simp [wp_bif]
  by_cases hr : r = 0
  · simp [hr]
    refine wp_cons ?_
    simp only [ex_set, evg_x, nxG_ok, wp_bind]
    refine wp_drawn (m := m + 10) (hrng _ _ _ rfl) (by simp [line]; omega) (hd4.mono (by simp; omega)) (fun i => 0 ≤ i ∧ i ≤ 2) (fun y hy k d' hd => ⟨_, rfl, ?_⟩) ?_
    · obtain ⟨q, hq, rfl⟩ := List.mem_map.mp hy
      simp
      refine wp.mono (take_spec hd (by omega) (by omega)) ?_
      rintro v T ⟨r, d', rfl, h0, h1, rfl, hd'⟩
      simp
      refine ⟨?_, d', rfl, hd'⟩
      cases decide ((q : Int) = r) <;> simp [b2i]
    intro l3 d5 hl3 hP3 hd5
    simp only [natsV_len, List.length_range] at hl3
    simp only [mkL_true, dS_len, dS_app, wp_ok, setS_succ, setS_zero, wK_nx]
    refine wp_last ?_
    refine aug_run (m := m) (il := (R ++ [Cl.lst (l2.map .int)]).length) (l := l3) (lost := lost) rfl rfl new_at hP3 hlo ?_ ?_
    · simp
      exact ⟨by omega, d5, rfl, hd5.mono (by omega)⟩
    intro l4 d6 hl4 hP4 hs4 hd6
    simp only [set_last, wK_nx]
    rw [List.append_assoc]
    exact fin _ _ l4 d6 none (by rw [← List.append_assoc]; exact new_at) (by omega) hP4 hs4 hd6
  · simp [hr]
    exact fin _ _ l2 d4 none new_at (by omega) hP2 hs2 (hd4.mono (by omega))
theorem house_rows_spec [K_L_house_rows U] {many : Nat} {leaky : Bool} (h1 : 1 ≤ many) (h8 : many ≤ 8) (h : Dok (m + 3000) d) : wp (phi U (n + 4) 375 [.loc 1, .int many, .bl leaky] (dS d R)) (fun v S => ∃ (ms : List (List Row)) (d' : Dw), v = movesV ms ∧ S = dS d' R ∧ Dok m d' ∧ ms.length = many ∧ Good ms) ff := by
  refine wp_fn K_L_house_rows.h375 rfl ?_
  unfold b_L_house_rows
  refine wp_cons ?_
  simp [startS, line]
  refine wp_cons (wp_forS ?_)
  simp
  rw [rng1V_int (by omega), rng_nat]
  simp only [wp_ok]
  refine wp_for (fun xs σ T => ∃ (ms : List (List Row)) (d' : Dw) (R' : Store), T = dS d' R' ∧ R <+: R' ∧ R'[R.length]? = some (.lst (ms.map rowsV)) ∧ Dok (m + 300 * xs.length) d' ∧ ms.length + xs.length = many ∧ (∀ rs ∈ ms, RsG many rs) ∧ (∀ x ∈ xs, ∃ p, p < many ∧ x = natV p) ∧
    σ = [some (.loc 1), some (.int many), some (.bl leaky), some (.loc (R.length + 2)), none, none, none, none, none, none]) ?_ ?_ ?_ ?_
  · intro _ _ _ _
    exact stand_nil _ _
  · rintro x xs σ T ⟨ms, d', R', rfl, hpre, hf, hd, hlen, hms, hx, rfl⟩
    obtain ⟨p, hp, rfl⟩ := hx x List.mem_cons_self
    simp only [evg_x, setS_succ, setS_zero, wp_ok]
    refine wp_cons ?_
    simp [line]
    refine wp_cons (wp_forS ?_)
    simp [line]
    refine wp.mono (pick_lf (m := m + 300 * xs.length + 200) (hd.mono (by simp; omega)) (by rfl)) ?_
    rintro v T ⟨hv, d2, rfl, hd2⟩
    obtain ⟨laps, rfl, hl1, hl3⟩ : ∃ k : Nat, v = .int k ∧ 1 ≤ k ∧ k ≤ 3 := by
      simp at hv
      rcases hv with rfl | rfl | rfl
      · exact ⟨1, rfl, by decide, by decide⟩
      · exact ⟨2, rfl, by decide, by decide⟩
      · exact ⟨3, rfl, by decide, by decide⟩
    rw [rng1V_int (by omega), rng_nat]
    simp only [wp_ok]
    refine wp_for (fun ys σ T => ∃ (rs : List Row) (d'' : Dw) (R'' : Store), T = dS d'' R'' ∧ R' <+: R'' ∧ R''[R'.length]? = some (.lst (rs.map rowV)) ∧ Dok (m + 300 * xs.length + 60 * ys.length) d'' ∧ rs.length + ys.length = laps ∧ AllG many rs ∧
      σ = [some (.loc 1), some (.int many), some (.bl leaky), some (.loc (R.length + 2)), some (natV p), some (.loc (R'.length + 2)), none, none, none, none]) ?_ ?_ ?_ ?_
    · intro _ _ _ _
      exact stand_nil _ _
    · rintro y ys σ T ⟨rs, d'', R'', rfl, hpre2, hs, hd'', hlen2, hrs, rfl⟩
      simp only [evg_x, setS_succ, setS_zero, wp_ok]
      refine lap_spec (m := m + 300 * xs.length + 60 * ys.length) h1 h8 hp (hd''.mono (by simp; omega)) hs (by simp at hlen2 ⊢; omega) ?_
      intro r d3 G a b hr hd3
      simp only [mask_some, mask_none, mask_nil]
      refine ⟨rs ++ [r], d3, _, rfl, pre_app (pre_set hpre2 (Nat.le_refl _)), ?_, hd3, by simp at hlen2 ⊢; omega, fun z hz => ?_, by trivial⟩
      · have hlt : R'.length < R''.length := (List.getElem?_eq_some_iff.mp hs).1
        rw [List.getElem?_append_left (by simpa using hlt), set_at hs]
        simp
      · rcases List.mem_append.mp hz with hz | hz
        · exact hrs z hz
        · simp at hz; subst hz; exact hr
    · rintro σ T ⟨rs, d3, R3, rfl, hpre2, hs, hd3, hlen2, hrs, rfl⟩
      simp only [wK_nx]
      refine wp_last ?_
      have hf2 := pre_get hpre2 hf
      simp only [ex_app, ev_x, getS_succ, getS_zero, ofO_some, bind_ok', isLst_dS hf2, lstG_true, ev_bi, wp_bind, wp_ok]
      rw [bi_tuple_of (items_dS hs)]
      simp only [wp_ok]
      rw [app_dS hf2 (by simp at hlen ⊢; simp [line]; omega)]
      simp only [nxS_some, wp_ok, mask_some, mask_none, mask_nil]
      refine ⟨ms ++ [rs], d3, _, rfl, pre_set (hpre.trans hpre2) (Nat.le_refl _), ?_, hd3.mono (by simp), by simp at hlen ⊢; omega, fun z hz => ?_, fun z hz => hx z (List.mem_cons_of_mem _ hz), by trivial⟩
      · rw [set_at hf2]
        simp [rowsV]
      · rcases List.mem_append.mp hz with hz | hz
        · exact hms z hz
        · simp at hz; subst hz
          simp at hlen2
          exact ⟨by omega, by omega, hrs⟩
    · exact ⟨[], d2, _, rfl, List.prefix_append _ _, by simp, hd2.mono (by simp; omega), by simp, fun r hr => (by cases hr), rfl⟩
  · rintro σ T ⟨ms, d', R', rfl, hpre, hf, hd, hlen, hms, hx, rfl⟩
    simp only [wK_nx]
    refine wp_last ?_
    simp only [ex_ret, ev_bi, ev_x, getS_succ, getS_zero, ofO_some, bind_ok', wp_bind]
    rw [bi_tuple_of (items_dS hf)]
    simp only [wp_ok, wOut]
    simp at hlen
    exact wp_leave hpre (frz_lf (pl_lf (pl_movesV ms))) ⟨ms, rfl, d', rfl, by simpa using hd, hlen, ⟨by omega, by omega, fun rs hrs => by rw [hlen]; exact hms rs hrs⟩⟩
  · exact ⟨[], d, _, rfl, List.prefix_append _ _, by simp, h.mono (by simp; omega), by simp, fun r hr => (by cases hr), fun x hx => by
      obtain ⟨p, hp, rfl⟩ := List.mem_map.mp hx
      exact ⟨p, List.mem_range.mp hp, rfl⟩, rfl⟩
end
end Sv
end

section
set_option linter.all false
set_option maxRecDepth 10000
/-! moves scaled, told in lists or tuples -/
namespace Sv
open PySem
def scR (f : Int) (r : Row) : Row := (r.1 * f, r.2.map fun x => x * f)
/-- rows of whole multiples -/
def ScRs : List Row → List Row → Prop
  | [], [] => True
  | r :: rs, q :: qs => (∃ f : Int, 1 ≤ f ∧ f ≤ 3 ∧ q = scR f r) ∧ ScRs rs qs
  | _, _ => False
theorem ScRs.snoc : ∀ {rs qs : List Row} {r : Row} {f : Int}, ScRs rs qs → 1 ≤ f → f ≤ 3 → ScRs (rs ++ [r]) (qs ++ [scR f r])
  | [], [], r, f, _, h1, h2 => ⟨⟨f, h1, h2, rfl⟩, trivial⟩
  | _ :: _, _ :: _, r, f, h, h1, h2 => ⟨h.1, ScRs.snoc h.2 h1 h2⟩
  | [], _ :: _, _, _, h, _, _ => h.elim
  | _ :: _, [], _, _, h, _, _ => h.elim
theorem ScRs.len : ∀ {rs qs : List Row}, ScRs rs qs → qs.length = rs.length
  | [], [], _ => rfl
  | _ :: _, _ :: _, h => by simp [ScRs.len h.2]
  | [], _ :: _, h => h.elim
  | _ :: _, [], h => h.elim
theorem le_sum : ∀ {l : List Int}, (∀ x ∈ l, 0 ≤ x) → ∀ x ∈ l, x ≤ l.sum
  | a :: l, h, x, hx => by
    have h2 := sum_nonneg fun y hy => h y (List.mem_cons_of_mem _ hy)
    simp only [List.sum_cons]
    rcases List.mem_cons.mp hx with rfl | hx
    · omega
    · have := le_sum (fun y hy => h y (List.mem_cons_of_mem _ hy)) x hx
      have := h a List.mem_cons_self
      omega
theorem scR_ok {many : Nat} {r : Row} {f : Int} (h : RowGood many r) (h1 : 1 ≤ f) (h3 : f ≤ 3) : RowOk many (scR f r) ∧ (scR f r).1.natAbs < divLine ∧ lpR (scR f r) = r := by
  obtain ⟨t, l⟩ := r
  have ht := h.ok.pos
  have hle := h.le
  dsimp only at ht hle
  have hb : t * f ≤ 3000 := by
    have := Int.mul_le_mul hle h3 (by omega) (by omega)
    omega
  have hp : 0 < t * f := Int.mul_pos (by omega) (by omega)
  refine ⟨⟨by show 1 ≤ t * f; omega, by simpa [scR] using h.ok.len, fun x hx => ?_, ?_⟩, ?_, ?_⟩
  · obtain ⟨a, ha, rfl⟩ := List.mem_map.mp hx
    exact Int.mul_nonneg (h.ok.nn a ha) (by omega)
  · show (l.map fun x => x * f).sum ≤ t * f
    rw [sum_mul]
    exact Int.mul_le_mul_of_nonneg_right h.ok.sum (by omega)
  · have : (10000 : Nat) < divLine := by
      unfold divLine
      calc (10000 : Nat) < 2 ^ 14 := by decide
        _ ≤ 2 ^ 9000 := Nat.pow_le_pow_right (by decide) (by decide)
    show (t * f).natAbs < divLine
    omega
  · exact lpair_scaled h.red (by omega) (by omega)
theorem ScRs.ok {many : Nat} : ∀ {rs qs : List Row}, ScRs rs qs → AllG many rs → (∀ q ∈ qs, RowOk many q ∧ q.1.natAbs < divLine) ∧ qs.map lpR = rs
  | [], [], _, _ => ⟨fun q h => (by cases h), rfl⟩
  | r :: rs, q :: qs, h, hg => by
    obtain ⟨⟨f, h1, h3, rfl⟩, h⟩ := h
    obtain ⟨i1, i2⟩ := ScRs.ok h fun x hx => hg x (List.mem_cons_of_mem _ hx)
    obtain ⟨j1, j2, j3⟩ := scR_ok (hg r List.mem_cons_self) h1 h3
    refine ⟨fun x hx => ?_, by rw [List.map_cons, i2, j3]⟩
    rcases List.mem_cons.mp hx with rfl | hx
    · exact ⟨j1, j2⟩
    · exact i1 x hx
  | [], _ :: _, h, _ => h.elim
  | _ :: _, [], h, _ => h.elim
/-- moves of whole multiples -/
def ScMs : List (List Row) → List (List Row) → Prop
  | [], [] => True
  | r :: rs, q :: qs => ScRs r q ∧ ScMs rs qs
  | _, _ => False
theorem ScMs.snoc : ∀ {rs qs : List (List Row)} {r q : List Row}, ScMs rs qs → ScRs r q → ScMs (rs ++ [r]) (qs ++ [q])
  | [], [], r, f, _, h1 => ⟨h1, trivial⟩
  | _ :: _, _ :: _, r, f, h, h1 => ⟨h.1, ScMs.snoc h.2 h1⟩
  | [], _ :: _, _, _, h, _ => h.elim
  | _ :: _, [], _, _, h, _ => h.elim
theorem ScMs.len : ∀ {rs qs : List (List Row)}, ScMs rs qs → qs.length = rs.length
  | [], [], _ => rfl
  | _ :: _, _ :: _, h => by simp [ScMs.len h.2]
  | [], _ :: _, h => h.elim
  | _ :: _, [], h => h.elim
theorem ScMs.each {many : Nat} : ∀ {rs qs : List (List Row)}, ScMs rs qs → (∀ r ∈ rs, RsG many r) → (∀ q ∈ qs, 1 ≤ q.length ∧ q.length ≤ 3 ∧ ∀ r ∈ q, RowOk many r ∧ r.1.natAbs < divLine) ∧ qs.map (fun q => q.map lpR) = rs
  | [], [], _, _ => ⟨fun q h => (by cases h), rfl⟩
  | r :: rs, q :: qs, h, hg => by
    obtain ⟨h0, h⟩ := h
    obtain ⟨i1, i2⟩ := ScMs.each h fun x hx => hg x (List.mem_cons_of_mem _ hx)
    obtain ⟨g1, g2, g3⟩ := hg r List.mem_cons_self
    obtain ⟨j1, j2⟩ := h0.ok g3
    refine ⟨fun x hx => ?_, by rw [List.map_cons, i2, j2]⟩
    rcases List.mem_cons.mp hx with rfl | hx
    · rw [h0.len]; exact ⟨g1, g2, j1⟩
    · exact i1 x hx
  | [], _ :: _, h, _ => h.elim
  | _ :: _, [], h, _ => h.elim
theorem ScMs.good {rs qs : List (List Row)} (h : ScMs rs qs) (g : Good rs) : MovesOk qs ∧ qs.map (fun q => q.map lpR) = rs := by
  obtain ⟨i1, i2⟩ := h.each g.each
  exact ⟨⟨by rw [h.len]; exact g.one, by rw [h.len]; exact g.eight, fun q hq => by rw [h.len]; exact i1 q hq⟩, i2⟩
/-- what stands in the list: lists that were made, or tuples -/
def SVs (R : Store) (b : Nat) : List PV → List (List Row) → Prop
  | [], [] => True
  | v :: vs, q :: qs => (v = rowsV q ∨ ∃ i, v = .loc (i + 2) ∧ b ≤ i ∧ R[i]? = some (.lst (q.map rowV))) ∧ SVs R b vs qs
  | _, _ => False
theorem SVs.mono {R R' : Store} {b : Nat} (h : ∀ i c, b ≤ i → R[i]? = some c → R'[i]? = some c) : ∀ {vs : List PV} {qs : List (List Row)}, SVs R b vs qs → SVs R' b vs qs
  | [], [], _ => trivial
  | _ :: _, _ :: _, q => ⟨q.1.imp id fun ⟨i, e, hb, e2⟩ => ⟨i, e, hb, h i _ hb e2⟩, SVs.mono h q.2⟩
  | [], _ :: _, q => q.elim
  | _ :: _, [], q => q.elim
theorem SVs.snoc {R : Store} {b : Nat} : ∀ {vs : List PV} {qs : List (List Row)} {v : PV} {q : List Row}, SVs R b vs qs → (v = rowsV q ∨ ∃ i, v = .loc (i + 2) ∧ b ≤ i ∧ R[i]? = some (.lst (q.map rowV))) → SVs R b (vs ++ [v]) (qs ++ [q])
  | [], [], _, _, _, h => ⟨h, trivial⟩
  | _ :: _, _ :: _, _, _, g, h => ⟨g.1, SVs.snoc g.2 h⟩
  | [], _ :: _, _, _, g, _ => g.elim
  | _ :: _, [], _, _, g, _ => g.elim
theorem SVs.len {R : Store} {b : Nat} : ∀ {vs : List PV} {qs : List (List Row)}, SVs R b vs qs → vs.length = qs.length
  | [], [], _ => rfl
  | _ :: _, _ :: _, h => by simp [SVs.len h.2]
  | [], _ :: _, h => h.elim
  | _ :: _, [], h => h.elim
theorem mapM_lf {S : Store} {n k : Nat} : ∀ {xs : List PV}, lfs xs = true → xs.mapM (frz S n k) = some xs
  | [], _ => rfl
  | x :: xs, h => by
    simp only [lfs_cons, Bool.and_eq_true] at h
    rw [List.mapM_cons, frz_lf h.1, mapM_lf h.2]
    rfl
theorem SVs.frz {d : Dw} {R : Store} {b n k : Nat} (hn : n ≤ b + 2) : ∀ {vs : List PV} {qs : List (List Row)}, SVs R b vs qs → ∃ ws, vs.mapM (Sv.frz (dS d R) n (k + 1)) = some ws ∧ Mv ws qs ∧ pls ws = true
  | [], [], _ => ⟨[], rfl, trivial, rfl⟩
  | v :: vs, q :: qs, h => by
    obtain ⟨ws, h1, h2, h3⟩ := SVs.frz (d := d) (k := k) hn h.2
    rcases h.1 with rfl | ⟨i, rfl, hb, e⟩
    · refine ⟨rowsV q :: ws, ?_, ⟨⟨by simp, rfl⟩, h2⟩, by simp [h3]⟩
      rw [List.mapM_cons, frz_lf (pl_lf (pl_rowsV q)), h1]
      rfl
    · have e2 : Sv.frz (dS d R) n (k + 1) (.loc (i + 2)) = some (.lst (q.map rowV)) := by
        unfold Sv.frz
        rw [if_neg (by simp)]
        dsimp only
        rw [if_neg (by omega)]
        have e' : (dS d R)[i + 2]? = some (.lst (q.map rowV)) := e
        rw [e']
        dsimp only
        rw [mapM_lf (lfs_map (fun r => lf_rowV r) q)]
        rfl
      refine ⟨.lst (q.map rowV) :: ws, ?_, ⟨⟨pls_map (fun r => pl_rowV r) q, rfl⟩, h2⟩, ?_⟩
      · rw [List.mapM_cons, e2, h1]
        rfl
      · rw [pls_cons, h3, Bool.and_true]
        exact pls_map (fun r => pl_rowV r) q
  | [], _ :: _, q => q.elim
  | _ :: _, [], q => q.elim
section
variable {U : Nat → Option FD} {n m : Nat} {d : Dw} {R : Store} {Φ : Phi}
theorem scaled_spec [K_L_scaled_moves U] {ms : List (List Row)} (g : Good ms) (h : Dok (m + 200) d) : wp (phi U (n + 4) 382 [.loc 1, movesV ms] (dS d R)) (fun v S => ∃ (ws : List PV) (qs : List (List Row)) (d' : Dw), pl v = true ∧ seqV v = some ws ∧ Mv ws qs ∧ ScMs ms qs ∧ S = dS d' R ∧ Dok m d') ff := by
  refine wp_fn K_L_scaled_moves.h382 rfl ?_
  unfold b_L_scaled_moves
  refine wp_cons ?_
  simp [startS, line]
  refine wp_cons (wp_forS ?_)
  simp [movesV]
  refine wp_for (fun xs σ T => ∃ (ps rest : List (List Row)) (acc : List PV) (qs : List (List Row)) (d' : Dw) (R' : Store), xs = rest.map rowsV ∧ ms = ps ++ rest ∧ T = dS d' R' ∧ R <+: R' ∧ R'[R.length]? = some (.lst acc) ∧ SVs R' (R.length + 1) acc qs ∧ ScMs ps qs ∧ Dok (m + 10 + 10 * xs.length) d' ∧
    σ = [some (.loc 1), some (movesV ms), some (.loc (R.length + 2)), none, none, none, none, none, none]) ?_ ?_ ?_ ?_
  · intro _ _ _ _
    exact stand_lf _ _ (by simp [lfs_map, pl_lf])
  · rintro x xs σ T ⟨ps, rest, acc, qs, d', R', hxs, hms, rfl, hpre, hf, hsv, hsc, hd, rfl⟩
    cases rest with
    | nil => cases hxs
    | cons rs rest =>
      simp only [List.map_cons, List.cons.injEq] at hxs
      obtain ⟨rfl, rfl⟩ := hxs
      obtain ⟨g1, g3, ga⟩ := g.each rs (by rw [hms]; simp)
      have h8 := g.eight
      simp only [evg_x, setS_succ, setS_zero, wp_ok]
      refine wp_cons ?_
      simp only [ex_set, ev_lst, evs_nil, bind_ok', List.length_nil, evg_x, nxG_ok, wp_bind]
      rw [if_pos (by simp [line])]
      simp only [mkL_true, dS_len, dS_app, wp_ok, setS_succ, setS_zero, wK_nx]
      refine wp_cons (wp_forS ?_)
      simp only [evi_e, ev_x, getS_succ, getS_zero, ofO_some, bind_ok', rowsV, items_tup, itV_some, wp_ok]
      refine wp_for (fun ys σ T => ∃ (ps' rest' qa : List Row) (d'' : Dw) (R'' : Store), ys = rest'.map rowV ∧ rs = ps' ++ rest' ∧ T = dS d'' R'' ∧ R' <+: R'' ∧ R''[R'.length]? = some (.lst (qa.map rowV)) ∧ ScRs ps' qa ∧ Dok (m + 10 + 10 * rest.length + 3 + 2 * ys.length) d'' ∧
        σ = [some (.loc 1), some (movesV ms), some (.loc (R.length + 2)), some (.tup (rs.map rowV)), some (.loc (R'.length + 2)), none, none, none, none]) ?_ ?_ ?_ ?_
      · intro _ _ _ _
        exact stand_lf _ _ (by simp [lfs_map])
      · rintro y ys σ T ⟨ps', rest', qa, d'', R'', hys, hrs, rfl, hpre2, hs, hq, hd'', rfl⟩
        cases rest' with
        | nil => cases hys
        | cons r rest' =>
          simp only [List.map_cons, List.cons.injEq] at hys
          obtain ⟨rfl, rfl⟩ := hys
          have hr := ga r (by rw [hrs]; simp)
          have hlen := congrArg List.length hrs
          simp only [List.length_append, List.length_cons] at hlen
          simp [rowV]
          refine wp_cons ?_
          simp [line]
          refine wp.mono (pick_lf (m := m + 10 + 10 * rest.length + 3 + 2 * (rest'.map rowV).length) (hd''.mono (by simp; omega)) (by rfl)) ?_
          rintro v T ⟨hv, d3, rfl, hd3⟩
          obtain ⟨f, rfl, hf1, hf3⟩ : ∃ f : Int, v = .int f ∧ 1 ≤ f ∧ f ≤ 3 := by
            simp at hv
            rcases hv with rfl | rfl | rfl <;> exact ⟨_, rfl, by decide, by decide⟩
          refine wp_last ?_
          have hpos := hr.ok.pos
          have hle := hr.le
          have hmul : ∀ z : Int, 0 ≤ z → z ≤ 1000 → mulOk z f := fun z h0 h1 => mulOk_of (a := 10) (b := 2) (by omega) (by omega) (by decide)
          simp only [ex_app, ev_x, getS_succ, getS_zero, ofO_some, bind_ok', isLst_dS hs, lstG_true, ev_tup, evs_cons, evs_nil, ev_bin, wp_bind, wp_ok, ev_bi]
          rw [mul_int (hmul r.1 (by omega) hle)]
          simp only [wp_ok]
          rw [lc_map (w := ([.tup (r.2.map .int)], r.2.map .int)) (by simp) (by rw [List.length_map, hr.ok.len]; simp [line]; omega) (fun v => match v with | .int z => .int (z * f) | v => v) fun z hz => by
            obtain ⟨z, hz', rfl⟩ := List.mem_map.mp hz
            refine ⟨_, rfl, ?_⟩
            have h1 := le_sum hr.ok.nn z hz'
            have h2 := hr.ok.sum
            simp [mul_int (hmul z (hr.ok.nn z hz') (by omega))]]
          simp only [mkL_false, wp_ok, bi_tuple_lst, List.length_cons, List.length_nil]
          rw [if_pos (by simp [line])]
          simp only [wp_ok]
          rw [app_dS hs (by rw [List.length_map]; have := hq.len; simp [line]; omega)]
          simp only [nxS_some, wp_ok, mask_some, mask_none, mask_nil]
          refine ⟨ps' ++ [r], rest', rfl, by rw [hrs]; simp, qa ++ [scR f r], d3, _, rfl, pre_set hpre2 (Nat.le_refl _), ?_, hq.snoc hf1 hf3, by simpa using hd3, by trivial⟩
          rw [set_at hs]
          simp [scR, rowV, Function.comp_def]
      · rintro σ T ⟨ps', rest', qa, d3, R3, hys, hrs, rfl, hpre2, hs, hq, hd3, rfl⟩
        cases rest' with
        | cons q qs => cases hys
        | nil =>
          simp only [List.append_nil] at hrs
          subst hrs
          simp only [wK_nx]
          refine wp_last ?_
          have hf2 := pre_get hpre2 hf
          have hfl : R.length < R'.length := (List.getElem?_eq_some_iff.mp hf).1
          have hal : acc.length + 1 ≤ 8 := by
            have h1 := hsv.len
            have h2 := hsc.len
            have h3 := congrArg List.length hms
            simp at h3
            omega
          have hgo : ∀ (v : PV) (d4 : Dw), (v = rowsV qa ∨ ∃ i, v = .loc (i + 2) ∧ R.length + 1 ≤ i ∧ R3[i]? = some (.lst (qa.map rowV))) → Dok (m + 10 + 10 * rest.length) d4 → ∃ (ps rest_1 : List (List Row)) (acc_1 : List PV) (qs : List (List Row)) (d' : Dw) (R' : Store), rest.map rowsV = rest_1.map rowsV ∧ ms = ps ++ rest_1 ∧ dS d4 (R3.set R.length (.lst (acc ++ [v]))) = dS d' R' ∧ R <+: R' ∧ R'[R.length]? = some (.lst acc_1) ∧ SVs R' (R.length + 1) acc_1 qs ∧ ScMs ps qs ∧ Dok (m + 10 + 10 * (rest.map rowsV).length) d' := by
            intro v d4 hv hd4
            have hset : ∀ i c, R.length + 1 ≤ i → R3[i]? = some c → (R3.set R.length (.lst (acc ++ [v])))[i]? = some c := fun i c hi e => by
              rw [List.getElem?_set_ne (by omega)]; exact e
            refine ⟨ps ++ [rs], rest, acc ++ [v], qs ++ [qa], d4, _, rfl, by rw [hms]; simp, rfl, pre_set (hpre.trans hpre2) (Nat.le_refl _), set_at hf2, ?_, hsc.snoc hq, by simpa using hd4⟩
            refine SVs.snoc ((hsv.mono fun i c _ e => pre_get hpre2 e).mono hset) ?_
            rcases hv with hv | ⟨i, e1, e2, e3⟩
            · exact .inl hv
            · exact .inr ⟨i, e1, e2, hset i _ e2 e3⟩
          simp only [ex_app, ev_x, getS_succ, getS_zero, ofO_some, bind_ok', isLst_dS hf2, lstG_true, ev_ite, evt_v, ev_cmp, ev_call, evs_cons, evs_nil, ev_ki, wp_bind, wp_ok]
          refine wp.mono (take_spec (m := m + 10 + 10 * rest.length) (hd3.mono (by omega)) (by decide) (by decide)) ?_
          rintro v T ⟨r, d4, rfl, hr0, hr1, rfl, hd4⟩
          simp only [eq_int, wp_ok, truth_bl, okT_some]
          by_cases hr : r = 0
          · simp only [hr, decide_true]
            simp only [ev_x, getS_succ, getS_zero, ofO_some, wp_ok, cond_true]
            rw [app_dS hf2 (by simp [line]; omega)]
            simp only [nxS_some, wp_ok, mask_some, mask_none, mask_nil]
            obtain ⟨a1, a2, a3, a4, a5, a6, b1, b2, b3, b4, b5, b6, b7, b8⟩ := hgo (.loc (R'.length + 2)) d4 (.inr ⟨R'.length, rfl, hfl, hs⟩) hd4
            exact ⟨a1, a2, a3, a4, a5, a6, b1, b2, b3, b4, b5, b6, b7, b8, by trivial⟩
          · simp only [decide_eq_false hr]
            simp only [ev_bi, ev_x, getS_succ, getS_zero, ofO_some, bind_ok', cond_false, wp_bind, wp_ok]
            rw [bi_tuple_of (items_dS hs)]
            simp only [wp_ok]
            rw [app_dS hf2 (by simp [line]; omega)]
            simp only [nxS_some, wp_ok, mask_some, mask_none, mask_nil]
            obtain ⟨a1, a2, a3, a4, a5, a6, b1, b2, b3, b4, b5, b6, b7, b8⟩ := hgo (rowsV qa) d4 (.inl rfl) hd4
            exact ⟨a1, a2, a3, a4, a5, a6, b1, b2, b3, b4, b5, b6, b7, b8, by trivial⟩
      · exact ⟨[], rs, [], d', _, rfl, rfl, rfl, List.prefix_append _ _, by simp, trivial, hd.mono (by simp; omega), rfl⟩
  · rintro σ T ⟨ps, rest, acc, qs, d', R', hxs, hms, rfl, hpre, hf, hsv, hsc, hd, rfl⟩
    cases rest with
    | cons q qs => cases hxs
    | nil =>
      simp only [List.append_nil] at hms
      subst hms
      simp only [wK_nx]
      refine wp_last ?_
      simp only [ex_ret, ev_ite, evt_v, ev_cmp, ev_call, evs_cons, evs_nil, ev_x, ev_ki, getS_succ, getS_zero, ofO_some, bind_ok', wp_bind, wp_ok]
      refine wp.mono (take_spec (m := m) (hd.mono (by simp)) (by decide) (by decide)) ?_
      rintro v T ⟨r, d4, rfl, hr0, hr1, rfl, hd4⟩
      obtain ⟨ws, hw1, hw2, hw3⟩ := hsv.frz (d := d4) (k := 6) (n := R.length + 2) (by omega)
      simp only [eq_int, wp_ok, truth_bl, okT_some, wOut]
      by_cases hr : r = 0
      · simp only [hr, decide_true, ev_x, getS_succ, getS_zero, ofO_some, wp_ok]
        refine wp_leave (w := .lst ws) hpre ?_ ⟨hw3, ws, rfl, qs, hw2, hsc, d4, rfl, hd4⟩
        unfold frz
        rw [if_neg (by simp)]
        dsimp only
        rw [if_neg (by omega)]
        have e' : (dS d4 R')[R.length + 2]? = some (.lst acc) := hf
        rw [e']
        dsimp only
        rw [hw1]
        rfl
      · simp only [decide_eq_false hr, ev_bi, ev_x, getS_succ, getS_zero, ofO_some, bind_ok', wp_bind, wp_ok]
        rw [bi_tuple_of (items_dS hf)]
        try simp only [wp_ok]
        refine wp_leave (w := .tup ws) hpre ?_ ⟨hw3, ws, rfl, qs, hw2, hsc, d4, rfl, hd4⟩
        unfold frz
        by_cases hlf : lf (.tup acc) = true
        · rw [if_pos hlf]
          have := mapM_lf (S := dS d4 R') (n := R.length + 2) (k := 7) (show lfs acc = true from hlf)
          rw [hw1] at this
          rw [Option.some.inj this]
        · rw [if_neg hlf]
          dsimp only
          rw [hw1]
          rfl
  · exact ⟨[], ms, [], [], d, _, rfl, rfl, rfl, List.prefix_append _ _, by simp, trivial, trivial, h.mono (by have := g.eight; simp; omega), rfl⟩
end
end Sv
end

section
set_option linter.all false
set_option maxRecDepth 10000
/-! what is refused -/
namespace Sv
open PySem
/-- _law_first_due: 0 _law_draw, 1 _law_work, 2 _law_args, 3 _law_bads, 4 _law_wrong, 5 _law_told, 6 _law_spot, 7 _law_item, 8 _law_is_due, 9 _law_caught_here, 10 _law_each -/
def b_L_first_due : Ts := (.cons (.set (.x 4) (.lc false [10] (.x 10) (.e (.x 3)) (.some (.v (.cmp .eq (.call 246 (.cons (.x 0) (.cons (.ki 3) .nil))) (.ki 0)))) (.x 10))) (.cons (.set (.x 4) (.ite (.v (.cmp .ne (.x 4) (.lst false .nil))) (.x 4) (.lst false (.cons (.call 247 (.cons (.x 0) (.cons (.x 3) .nil))) .nil)))) (.cons (.set (.x 5) (.bl .list true (.x 2))) (.cons (.for (.tup (.cons (.x 6) (.cons (.x 7) (.cons (.x 8) .nil)))) (.e (.x 4)) (.cons (.set (.sub (.x 5) (.x 6)) (.x 7)) .nil)) (.cons (.set (.x 9) (.caught (.callv (.x 1) (.cons (.x 5) .nil)))) (.cons (.ret (.and (.isn true (.x 9)) (.callv (.idx (.idx (.x 4) (.ki 0)) (.ki 2)) (.cons (.x 9) .nil)))) .nil))))))
def d_L_first_due : FD := .fn 4 11 b_L_first_due
class K_L_first_due (U : Nat → Option FD) : Prop extends K_L_pick U, K_L_take U where
  h276 : U 276 = some d_L_first_due
/-- something bad: where, what, the error that is due -/
abbrev Bad : Type := Nat × PV × Nat
def badV (b : Bad) : PV := .tup [.int b.1, b.2.1, .clo b.2.2]
def runSets (as : List PV) (w : List Bad) : List PV := w.foldl (fun a b => a.set b.1 b.2.1) as
theorem runSets_len (w : List Bad) : ∀ as : List PV, (runSets as w).length = as.length := by
  induction w with
  | nil => intro as; rfl
  | cons b w ih => intro as; show (runSets (as.set b.1 b.2.1) w).length = _; rw [ih]; simp
section
variable {U : Nat → Option FD} {n m : Nat} {d : Dw} {R : Store} {Φ : Phi}
theorem lf_badV {b : Bad} (h : lf b.2.1 = true) : lf (badV b) = true := by simp [badV, h]
theorem first_due_spec [K_L_first_due U] {bs : List Bad} {bv args : PV} {as : List PV} {wk : Nat} (hbs : ∀ d', items bv (dS d' R) = some (bs.map badV)) (hne : bs ≠ []) (hlen : bs.length ≤ 10) (hlf : ∀ b ∈ bs, lf b.2.1 = true) (hst : ∀ d' d'', stand [bv] (dS d' R) (dS d'' R)) (hargs : ∀ d', items args (dS d' R) = some as) (hal : as.length ≤ 10) (hidx : ∀ b ∈ bs, b.1 < as.length) (h : Dok (m + 20) d)
    (hw : ∀ w : List Bad, w ≠ [] → w.Sublist bs → ∀ (d' : Dw) (R' : Store) (i : Nat), R'[i]? = some (.lst (runSets as w)) → ∃ C, phi U (n + 3) wk [.loc (i + 2)] (dS d' R') = .ex (.exc C []) (dS d' R') ∧ ∀ b, w.head? = some b → phi U (n + 3) b.2.2 [.exc C []] (dS d' R') = .ok (.bl true) (dS d' R'))
    {Q : PV → Store → Prop} (hQ : ∀ d', Dok m d' → Q (.bl true) (dS d' R)) : wp (phi U (n + 4) 276 [.loc 1, .clo wk, args, bv] (dS d R)) Q ff := by
  refine wp_fn K_L_first_due.h276 rfl ?_
  unfold b_L_first_due
  refine wp_cons ?_
  simp only [startS, List.map_cons, List.map_nil, List.length_cons, List.length_nil, List.replicate, List.cons_append, List.nil_append, Nat.reduceAdd, Nat.reduceSub, ex_set, evg_x, nxG_ok, wp_bind]
  rw [ev_lc]
  simp only [evi_e, ev_x, getS_succ, getS_zero, ofO_some, bind_ok', hbs, itV_some]
  rw [lenG_of (by simp [line]; omega), wp_bind]
  refine wp_lc (fun ys acc T => ∃ (dn rest w : List Bad) (d' : Dw), bs = dn ++ rest ∧ ys = rest.map badV ∧ acc = w.map badV ∧ w.Sublist dn ∧ T = dS d' R ∧ Dok (m + 8 + ys.length) d') ?_ ?_ ?_ ⟨[], bs, [], d, rfl, rfl, rfl, List.Sublist.refl _, rfl, h.mono (by simp; omega)⟩
  · rintro ys acc T ⟨_, _, _, d', _, _, _, _, rfl, _⟩
    exact hst _ _
  · rintro y ys acc T ⟨dn, rest, w, d', hb, hys, rfl, hw', rfl, hd⟩
    cases rest with
    | nil => cases hys
    | cons b rest =>
      simp only [List.map_cons, List.cons.injEq] at hys
      obtain ⟨rfl, rfl⟩ := hys
      simp only [wipeS_cons, wipeS_nil, setS_succ, setS_zero, evg_x, wp_ok, evc_some, evt_v, ev_cmp, ev_call, evs_cons, evs_nil, ev_x, ev_ki, getS_succ, getS_zero, ofO_some, bind_ok', wp_bind]
      refine wp.mono (take_spec (m := m + 8 + (rest.map badV).length) (hd.mono (by simp; omega)) (by decide) (by decide)) ?_
      rintro v T ⟨r, d2, rfl, hr0, hr1, rfl, hd2⟩
      simp only [eq_int, wp_ok, truth_bl, okT_some]
      by_cases hr : r = 0
      · simp only [hr, decide_true, cond_true, wp_ok]
        exact ⟨dn ++ [b], rest, w ++ [b], d2, by rw [hb]; simp, rfl, by simp, hw'.append (List.Sublist.refl _), rfl, hd2⟩
      · simp only [decide_eq_false hr, cond_false]
        exact ⟨dn ++ [b], rest, w, d2, by rw [hb]; simp, rfl, rfl, hw'.trans (List.sublist_append_left _ _), rfl, hd2⟩
  · rintro acc T ⟨dn, rest, w, d2, hb, hys, rfl, hw', rfl, hd2⟩
    cases rest with
    | cons b rest => cases hys
    | nil =>
      simp only [List.append_nil] at hb
      subst hb
      simp only [mkL_false, wp_ok, setS_succ, setS_zero, wK_nx]
      -- the second statement
      have fin : ∀ (w : List Bad) (d3 : Dw) (σv : Option PV), w ≠ [] → w.Sublist bs → Dok m d3 →
          wp (exs (phi U (n + 3)) (.cons (.set (.x 5) (.bl .list true (.x 2))) (.cons (.for (.tup (.cons (.x 6) (.cons (.x 7) (.cons (.x 8) .nil)))) (.e (.x 4)) (.cons (.set (.sub (.x 5) (.x 6)) (.x 7)) .nil)) (.cons (.set (.x 9) (.caught (.callv (.x 1) (.cons (.x 5) .nil)))) (.cons (.ret (.and (.isn true (.x 9)) (.callv (.idx (.idx (.x 4) (.ki 0)) (.ki 2)) (.cons (.x 9) .nil)))) .nil)))) [some (.loc 1), some (.clo wk), some args, some bv, some (.lst (w.map badV)), none, none, none, none, none, none] (dS d3 R)) (wOut (dS d R) Q) (wErr (dS d R) ff) := by
        intro w d3 _ hwn hws hd3
        have hwl := hws.length_le
        refine wp_cons ?_
        simp only [ex_set, ev_bl, ev_x, getS_succ, getS_zero, ofO_some, bind_ok', evg_x, nxG_ok, wp_bind]
        rw [bl_list_of (hargs d3)]
        simp only [mkL_true, dS_len, dS_app, wp_ok, setS_succ, setS_zero, wK_nx]
        refine wp_cons (wp_forS ?_)
        simp only [evi_e, ev_x, getS_succ, getS_zero, ofO_some, bind_ok', items_lst, itV_some, wp_ok]
        refine wp_for (fun ys σ T => ∃ (w2 w' : List Bad) (R' : Store), w = w2 ++ w' ∧ ys = w'.map badV ∧ T = dS d3 R' ∧ R <+: R' ∧ R'[R.length]? = some (.lst (runSets as w2)) ∧ σ = [some (.loc 1), some (.clo wk), some args, some bv, some (.lst (w.map badV)), some (.loc (R.length + 2)), none, none, none, none, none]) ?_ ?_ ?_ ?_
        · intro _ _ _ _
          refine stand_lf _ _ ?_
          simp only [lfs_cons, lf_lst, lfs_nil, Bool.and_true]
          exact lfs_of fun x hx => by
            obtain ⟨b, hb, rfl⟩ := List.mem_map.mp hx
            exact lf_badV (hlf b (hws.subset hb))
        · rintro y ys σ T ⟨w2, w', R', hw2, hys, rfl, hpre, hc, rfl⟩
          cases w' with
          | nil => cases hys
          | cons b w' =>
            simp only [List.map_cons, List.cons.injEq] at hys
            obtain ⟨rfl, rfl⟩ := hys
            have hb : b ∈ bs := hws.subset (by rw [hw2]; simp)
            simp only [badV, evg_tup, tupV_tup, unpV_some, evgs_cons, evgs_nil, evg_x, seqG_ok, setS_succ, setS_zero, wp_ok]
            refine wp_last ?_
            simp only [ex_set, ev_x, getS_succ, getS_zero, ofO_some, bind_ok', evg_sub, wp_ok]
            rw [setIx_dS hc (by rw [runSets_len]; exact hidx b hb)]
            simp only [okS_some, nxG_ok, wp_ok, mask_some, mask_none, mask_nil]
            refine ⟨w2 ++ [b], w', _, by rw [hw2]; simp, rfl, rfl, pre_set hpre (Nat.le_refl _), ?_, by trivial⟩
            rw [set_at hc]
            simp [runSets]
        · rintro σ T ⟨w2, w', R', hw2, hys, rfl, hpre, hc, rfl⟩
          cases w' with
          | cons b w' => cases hys
          | nil =>
            simp only [List.append_nil] at hw2
            subst hw2
            simp only [wK_nx]
            obtain ⟨C, hC, hD⟩ := hw w hwn hws d3 R' R.length hc
            refine wp_cons ?_
            simp only [ex_set, ev_caught, ev_callv, ev_x, getS_succ, getS_zero, ofO_some, bind_ok', callV_clo, evs_cons, evs_nil, hC, catchV_ex, evg_x, nxG_ok, wp_ok, setS_succ, setS_zero, wK_nx]
            refine wp_last ?_
            cases w with
            | nil => exact absurd rfl hwn
            | cons b w =>
              simp only [ex_ret, ev_and, ev_isn, ev_x, getS_succ, getS_zero, ofO_some, bind_ok', isNon, bne_iff_ne, ne_eq, Bool.false_eq_true, not_false_eq_true, ev_callv, ev_idx, ev_ki, List.map_cons, idx_l0, badV, idx_t2, callV_clo, evs_cons, evs_nil]
              simp only [show (false != true) = true from rfl, ifB_true]
              rw [hD b rfl]
              simp only [bind_ok', wp_ok, wOut]
              exact wp_leave hpre (frz_lf rfl) (hQ d3 hd3)
        · exact ⟨[], w, _, rfl, rfl, rfl, List.prefix_append _ _, by simp [runSets], rfl⟩
      refine wp_cons ?_
      simp only [ex_set, ev_ite, evt_v, ev_cmp, ev_x, ev_lst, evs_nil, getS_succ, getS_zero, ofO_some, bind_ok', evg_x, nxG_ok, wp_bind, wp_ok, List.length_nil]
      rw [if_pos (by simp [line])]
      simp only [mkL_false, wp_ok, ne_nil_lst, truth_bl, okT_some]
      cases w with
      | cons b w =>
        simp only [List.map_cons, List.isEmpty_cons, Bool.not_false, cond_true, ofO_some, wp_ok, setS_succ, setS_zero, wK_nx]
        exact fin (b :: w) d2 none (by simp) hw' (hd2.mono (by omega))
      | nil =>
        simp only [List.map_nil, List.isEmpty_nil, Bool.not_true, cond_false, evs_cons, evs_nil, ev_call, ev_x, getS_succ, getS_zero, ofO_some, bind_ok', wp_bind]
        refine wp.mono (pick_spec (m := m) (hd2.mono (by omega)) hbs (by simpa using hne) (by simp; omega) (fun v hv d' => ?_)) ?_
        · obtain ⟨b, hb, rfl⟩ := List.mem_map.mp hv
          exact frz_lf (lf_badV (hlf b hb))
        rintro v T ⟨hv, d4, rfl, hd4⟩
        obtain ⟨b, hb, rfl⟩ := List.mem_map.mp hv
        simp only [wp_ok, List.length_cons, List.length_nil]
        rw [if_pos (by simp [line])]
        simp only [mkL_false, wp_ok, setS_succ, setS_zero, wK_nx]
        exact fin [b] d4 none (by simp) (List.singleton_sublist.mpr hb) hd4
/-! ### what is bad -/
theorem bad_house_spec [K_L_bad_house U] {ms : List (List Row)} (h8 : ms.length ≤ 8) (h : Dok (m + 1) d) {Q : PV → Store → Prop} (hQ : ∀ v d', pl v = true → isHouse v = false → Dok m d' → Q v (dS d' R)) : wp (phi U (n + 4) 379 [.loc 1, movesV ms] (dS d R)) Q ff := by
  refine wp_fn K_L_bad_house.h379 rfl ?_
  unfold b_L_bad_house
  refine wp_last ?_
  simp only [startS, List.map_cons, List.map_nil, List.length_cons, List.length_nil, List.replicate, List.cons_append, List.nil_append, Nat.reduceAdd, Nat.reduceSub, ex_ret, ev_call, evs_cons, evs_nil, ev_x, getS_succ, getS_zero, ofO_some, bind_ok', ev_lst, ev_kn, ev_bl, ev_ki, ev_ks, ev_tup, ev_dct, wp_bind, wp_ok]
  rw [bl_list_of (xs := ms.map rowsV) rfl]
  simp only [mkL_false, wp_ok]
  rw [if_pos (by simp [line])]
  simp only [wp_ok]
  rw [if_pos (by simp [line])]
  simp only [mkL_false, wp_ok, dS_len, dS_app, List.zip_nil_left, dkmerge, List.foldl_nil]
  refine wp.mono (pick_spec (m := m) h (x := .lst [.non, movesV ms, .lst (ms.map rowsV), .int 5, .str (PySem.Str.ofString "house"), .tup [], .loc (R.length + 2)]) (fun _ => rfl) (by simp) (by simp) (fun v hv d' => ?_)) ?_
  · simp only [List.mem_cons, List.not_mem_nil, or_false] at hv
    rcases hv with rfl | rfl | rfl | rfl | rfl | rfl | rfl
    · exact frz_lf rfl
    · exact frz_lf (pl_lf (pl_movesV ms))
    · exact frz_lf (lfs_map (fun r => pl_lf (pl_rowsV r)) ms)
    · exact frz_lf rfl
    · exact frz_lf rfl
    · exact frz_lf rfl
    · unfold frz
      rw [if_neg (by simp)]
      dsimp only
      rw [if_pos (by simp)]
  · rintro v T ⟨hv, d', rfl, hd'⟩
    simp only [wOut]
    simp only [List.mem_cons, List.not_mem_nil, or_false] at hv
    have hp : R <+: R ++ [Cl.dct []] := List.prefix_append _ _
    rcases hv with rfl | rfl | rfl | rfl | rfl | rfl | rfl
    · exact wp_leave hp (frz_lf rfl) (hQ _ _ rfl rfl hd')
    · exact wp_leave hp (frz_lf (pl_lf (pl_movesV ms))) (hQ _ _ (by simp) rfl hd')
    · exact wp_leave hp (frz_lf (lfs_map (fun r => pl_lf (pl_rowsV r)) ms)) (hQ _ _ (pls_map (fun r => pl_rowsV r) ms) rfl hd')
    · exact wp_leave hp (frz_lf rfl) (hQ _ _ rfl rfl hd')
    · exact wp_leave hp (frz_lf rfl) (hQ _ _ rfl rfl hd')
    · exact wp_leave hp (frz_lf rfl) (hQ _ _ rfl rfl hd')
    · refine wp_leave (w := .dic) hp ?_ (hQ _ _ rfl rfl hd')
      unfold frz
      rw [if_neg (by simp)]
      dsimp only
      rw [if_neg (by omega), show (dS d' (R ++ [Cl.dct []]))[R.length + 2]? = some (Cl.dct []) by rw [dS_at]; exact new_at]
theorem cut_to {α : Type} {xs : List α} {k : Nat} : cut xs none (some (k : Int)) = xs.take k := by
  simp only [cut, sIx, List.drop_zero, Nat.sub_zero]
  rw [if_neg (by omega), Int.toNat_natCast]
  rw [Nat.min_def]
  split
  · rfl
  · rw [List.take_length, List.take_of_length_le (by omega)]
theorem cut_from {α : Type} {xs : List α} {k : Nat} : cut xs (some (k : Int)) none = xs.drop k := by
  simp only [cut, sIx]
  rw [if_neg (by omega), Int.toNat_natCast]
  have : (xs.drop (min k xs.length)).length = xs.length - min k xs.length := by simp
  rw [List.take_of_length_le (by omega)]
  rw [Nat.min_def]
  split
  · rfl
  · rw [List.drop_length, List.drop_of_length_le (by omega)]
theorem cut_from1 {α : Type} {xs : List α} {k : Nat} : cut xs (some ((k : Int) + 1)) none = xs.drop (k + 1) := cut_from (k := k + 1)
/-- one item is another one -/
def bent {α : Type} (xs : List α) (k : Nat) (v : α) : List α := xs.take k ++ v :: xs.drop (k + 1)
theorem bent_len {α : Type} {xs : List α} {k : Nat} {v : α} (h : k < xs.length) : (bent xs k v).length = xs.length := by simp [bent]; omega
theorem bent_at {α : Type} {xs : List α} {k : Nat} {v : α} (h : k < xs.length) : (bent xs k v)[k]? = some v := by
  unfold bent
  have e : (xs.take k).length = k := by simp; omega
  rw [List.getElem?_append_right (by omega), e, Nat.sub_self]
  rfl
theorem pls_bent {xs : List PV} {k : Nat} {v : PV} (h : pls xs = true) (hv : pl v = true) : pls (bent xs k v) = true := by
  refine pls_of fun x hx => ?_
  rcases List.mem_append.mp hx with hx | hx
  · exact pls_mem h (List.mem_of_mem_take hx)
  · rcases List.mem_cons.mp hx with rfl | hx
    · exact hv
    · exact pls_mem h (List.mem_of_mem_drop hx)
theorem planB_bent {ms : List (List Row)} {xs : List PV} {k : Nat} {v : PV} (hl : xs.length = ms.length) (hk : k < xs.length) (h3 : ∀ rs ∈ ms, rs.length ≤ 3) (hv : ∀ j : Int, j ≤ 2 → betw 0 j v = false) : planB ms (.tup (bent xs k v)) = false := by
  simp only [planB, Bool.and_eq_false_iff]
  right
  rw [List.all_eq_false]
  obtain ⟨rs, hrs⟩ : ∃ rs, ms[k]? = some rs := ⟨ms[k], List.getElem?_eq_getElem (by omega)⟩
  refine ⟨(v, rs), List.mem_of_getElem? (i := k) (by rw [List.getElem?_zip_eq_some]; exact ⟨bent_at hk, hrs⟩), ?_⟩
  have := h3 rs (List.mem_of_getElem? hrs)
  simp [hv _ (show (rs.length : Int) - 1 ≤ 2 by omega)]
theorem planB_len {ms : List (List Row)} {xs : List PV} (h : xs.length ≠ ms.length) : planB ms (.tup xs) = false := by simp [planB, h]
theorem bad_plan_spec [K_L_bad_plan U] {ms : List (List Row)} {p : List Nat} (h1 : 1 ≤ ms.length) (h8 : ms.length ≤ 8) (h3 : ∀ rs ∈ ms, rs.length ≤ 3) (hp : p.length = ms.length) (h : Dok (m + 3) d) {Q : PV → Store → Prop} (hQ : ∀ v d', pl v = true → planB ms v = false → Dok m d' → Q v (dS d' R)) : wp (phi U (n + 4) 380 [.loc 1, .tup (natsV p)] (dS d R)) Q ff := by
  refine wp_fn K_L_bad_plan.h380 rfl ?_
  unfold b_L_bad_plan
  refine wp_cons ?_
  simp only [startS, List.map_cons, List.map_nil, List.length_cons, List.length_nil, List.replicate, List.cons_append, List.nil_append, Nat.reduceAdd, Nat.reduceSub, ex_set, ev_call, evs_cons, evs_nil, ev_x, getS_succ, getS_zero, ofO_some, bind_ok', ev_bi, bi_len_tup, natsV_len, evg_x, nxG_ok, wp_bind, wp_ok]
  refine wp.mono (take_spec (m := m + 2) h (by omega) (by omega)) ?_
  rintro v T ⟨r, d1, rfl, hr0, hr1, rfl, hd1⟩
  obtain ⟨k, rfl⟩ := Int.eq_ofNat_of_zero_le hr0
  have hk : k < p.length := by omega
  simp only [setS_succ, setS_zero, wK_nx]
  refine wp_cons ?_
  simp only [ex_set, ev_call, evs_cons, evs_nil, ev_x, getS_succ, getS_zero, ofO_some, bind_ok', ev_lst, ev_ki, ev_neg, negV_int, ev_kn, ev_ks, ev_tup, ev_kb, evg_x, nxG_ok, wp_bind, wp_ok, List.length_cons, List.length_nil]
  rw [if_pos (by simp [line])]
  simp only [wp_ok]
  rw [if_pos (by simp [line])]
  simp only [mkL_false, wp_ok]
  refine wp.mono (pick_lf (m := m + 1) hd1 (by rfl)) ?_
  rintro odd T ⟨hodd, d2, rfl, hd2⟩
  have ho : pl odd = true ∧ ∀ j : Int, j ≤ 2 → betw 0 j odd = false := by
    simp only [List.mem_cons, List.not_mem_nil, or_false] at hodd
    rcases hodd with rfl | rfl | rfl | rfl | rfl | rfl | rfl <;> refine ⟨rfl, fun j hj => ?_⟩ <;> simp [betw] <;> omega
  simp only [setS_succ, setS_zero, wK_nx]
  refine wp_cons ?_
  have e1 : ∀ S : Store, slcV false (.tup (natsV p)) none (some (k : Int)) S = .ok (.tup ((natsV p).take k)) S := fun S => by rw [slcV_tup, cut_to]
  have e2 : ∀ S : Store, slcV false (.tup (natsV p)) (some ((k : Int) + 1)) none S = .ok (.tup ((natsV p).drop (k + 1))) S := fun S => by rw [slcV_tup, cut_from1]
  simp only [ex_set, ev_bin, ev_slc, ev_x, evo_none, evo_some, okI_int, ev_ki, add_int, getS_succ, getS_zero, ofO_some, bind_ok', ev_tup, evs_cons, evs_nil, evg_x, nxG_ok, wp_bind, wp_ok, e1, e2, List.length_cons, List.length_nil]
  rw [if_pos (by simp [line])]
  simp only [wp_ok]
  rw [add_tup (by simp [line]; omega)]
  simp only [wp_ok]
  rw [add_tup (by simp [line]; omega)]
  simp only [wp_ok, setS_succ, setS_zero, wK_nx, List.append_assoc, List.cons_append, List.nil_append]
  rw [show (natsV p).take k ++ odd :: (natsV p).drop (k + 1) = bent (natsV p) k odd from rfl]
  refine wp_last ?_
  have e3 : ∀ S : Store, slcV false (.tup (natsV p)) (some 1) none S = .ok (.tup ((natsV p).drop 1)) S := fun S => by rw [slcV_tup, show (1 : Int) = ((1 : Nat) : Int) from rfl, cut_from]
  simp only [ex_ret, ev_call, evs_cons, evs_nil, ev_x, getS_succ, getS_zero, ofO_some, bind_ok', ev_lst, ev_kn, ev_bl, ev_slc, evo_none, evo_some, okI_int, ev_ki, ev_bin, ev_tup, wp_bind, wp_ok, e3, List.length_cons, List.length_nil]
  rw [bl_list_of (xs := natsV p) rfl]
  simp only [mkL_false, wp_ok]
  rw [if_pos (by simp [line])]
  simp only [wp_ok]
  rw [add_tup (by simp [line]; omega)]
  simp only [wp_ok]
  rw [if_pos (by simp [line])]
  simp only [mkL_false, wp_ok]
  have hpb : pl (.tup (bent (natsV p) k odd)) = true := pls_bent (pls_natsV p) ho.1
  refine wp.mono (pick_lf (m := m) hd2 ?_) ?_
  · refine pls_lfs ?_
    have h9 : pls ((natsV p).drop 1) = true := pls_of fun x hx => pls_mem (pls_natsV p) (List.mem_of_mem_drop hx)
    simp only [pls_cons, pl_non, pl_lst, pl_int, pl_tup, pls_natsV, h9, pls_append, show pls (bent (natsV p) k odd) = true from hpb, pls_nil, Bool.and_true, Bool.true_and]
  rintro v T ⟨hv, d3, rfl, hd3⟩
  simp only [wOut]
  have go : pl v = true → planB ms v = false → wp (leave (dS d R).length (dS d R) (dS d3 R) v) Q ff := fun h1 h2 => wp_leave (List.prefix_refl R) (frz_lf (pl_lf h1)) (hQ v d3 h1 h2 hd3)
  simp only [List.mem_cons, List.not_mem_nil, or_false] at hv
  have hb2 : planB ms (.tup (bent (natsV p) k odd)) = false := planB_bent (by simpa using hp) (by simpa using hk) h3 ho.2
  rcases hv with rfl | rfl | rfl | rfl | rfl | rfl | rfl | rfl
  · exact go rfl rfl
  · exact go (pls_natsV p) rfl
  · refine go (pls_of fun x hx => pls_mem (pls_natsV p) (List.mem_of_mem_drop hx)) (planB_len ?_)
    simp
    omega
  · refine go (by simp) (planB_len ?_)
    simp
    omega
  · exact go rfl rfl
  · exact go hpb hb2
  · exact go hpb hb2
  · exact go hpb hb2
end
end Sv
end

section
set_option linter.all false
set_option maxRecDepth 10000
/-! bad moves -/
namespace Sv
open PySem
theorem aremB_mem {ws : List PV} {w : PV} (hw : w ∈ ws) (h : rsB ws.length w = false) : aremB (.tup ws) = false := by
  have : ws.all (rsB ws.length) = false := List.all_eq_false.mpr ⟨w, hw, by simp [h]⟩
  simp only [aremB, seqV, this, Bool.and_false]
theorem rsB_row {many : Nat} {rs : List PV} {w : PV} {r : PV} (hs : seqV w = some rs) (hr : r ∈ rs) (h : crowB many r = false) : rsB many w = false := by
  have : rs.all (crowB many) = false := List.all_eq_false.mpr ⟨r, hr, by simp [h]⟩
  simp only [rsB, hs, this, Bool.and_false]
theorem repL_one (v : PV) : ∀ n : Nat, repL [v] n = List.replicate n v
  | 0 => rfl
  | n + 1 => by show [v] ++ repL [v] n = _; rw [repL_one v n]; rfl
theorem cntB_neg {many : Int} {xs : List PV} {x : PV} (hx : x ∈ xs) (h : nonneg x = false) : cntB many (.tup xs) = false := by
  have : xs.all nonneg = false := List.all_eq_false.mpr ⟨x, hx, by simp [h]⟩
  simp only [cntB, this, Bool.and_false]
section
variable {U : Nat → Option FD} {n m : Nat} {d : Dw} {R S : Store} {Φ : Phi}
theorem mul_t1 {mm : Bool} {v : PV} {k : Nat} (h : k ≤ 1000) : binop .mul mm (.tup [v]) (.int k) S = .ok (.tup (List.replicate k v)) S := by
  have : binop .mul mm (.tup [v]) (.int k) S = .ok (.tup (repL [v] (k : Int).toNat)) S := if_pos ⟨⟨by omega, by omega⟩, by simp⟩
  rw [this, Int.toNat_natCast, repL_one]
theorem mul_l1 {v : PV} {k : Nat} (h : k ≤ 1000) : binop .mul false (.lst [v]) (.int k) S = .ok (.lst (List.replicate k v)) S := by
  have : binop .mul false (.lst [v]) (.int k) S = mkL false (repL [v] (k : Int).toNat) S := if_pos ⟨⟨by omega, by omega⟩, by simp⟩
  rw [this, Int.toNat_natCast, repL_one, mkL_false]
def zs (k : Nat) : List PV := List.replicate k (.int 0)
def badRows (many : Nat) : List PV := [.tup [.int 0, .tup (zs many)], .tup [.int 1, .tup (List.replicate many (.int 1) ++ [.int 0])], .tup [.int 1, .lst (zs many)], .lst [.int 1, .tup (zs many)], .tup [.int 1, .tup (zs many), .int 0], .non] ++
  [.tup [.bl true, .tup (zs many)], .tup [.int 1, .tup (.bl true :: zs (many - 1))], .tup [.int 1, .tup (.int (-1) :: zs (many - 1))], .tup [.int 2, .tup (.int 3 :: zs (many - 1))]]
theorem zs_ints (k : Nat) : zs k = (List.replicate k (0 : Int)).map .int := by simp [zs]
theorem pls_rep {k : Nat} {v : PV} (h : pl v = true) : pls (List.replicate k v) = true := pls_of fun x hx => by rw [List.eq_of_mem_replicate hx]; exact h
theorem badRows_pl {many : Nat} : pls (badRows many) = true := by
  have h0 : ∀ k, pls (zs k) = true := fun k => pls_rep rfl
  have h1 : pls (List.replicate many (PV.int 1)) = true := pls_rep rfl
  simp [badRows, h0, h1]
theorem badRows_bad {many : Nat} (h1 : 1 ≤ many) {v : PV} (hv : v ∈ badRows many) : crowB many v = false := by
  simp only [badRows, List.cons_append, List.nil_append, List.mem_cons, List.not_mem_nil, or_false] at hv
  rcases hv with rfl | rfl | rfl | rfl | rfl | rfl | rfl | rfl | rfl | rfl
  · simp [crowB]
  · simp [crowB, cntB]
    intro h
    omega
  · simp [crowB, cntB]
  · rfl
  · rfl
  · rfl
  · rfl
  · simp [crowB, cntB_neg (x := .bl true) List.mem_cons_self rfl]
  · simp [crowB, cntB_neg (x := .int (-1)) List.mem_cons_self rfl]
  · have e : (PV.int 3 :: zs (many - 1)) = ((3 : Int) :: List.replicate (many - 1) 0).map .int := by simp [zs]
    have e2 : ((3 : Int) :: List.replicate (many - 1) 0).sum = 3 := by simp
    simp only [crowB]
    rw [show sumV (.tup (PV.int 3 :: zs (many - 1))) = 3 by rw [e]; show sumI _ = 3; rw [sumI_map, e2]]
    simp
theorem bad_moves_spec [K_L_bad_moves U] {ms : List (List Row)} (g : Good ms) (h : Dok (m + 3) d) {Q : PV → Store → Prop} (hQ : ∀ v d', pl v = true → aremB v = false → Dok m d' → Q v (dS d' R)) : wp (phi U (n + 4) 381 [.loc 1, movesV ms] (dS d R)) Q ff := by
  refine wp_fn K_L_bad_moves.h381 rfl ?_
  have h1 := g.one
  have h8 := g.eight
  unfold b_L_bad_moves
  refine wp_cons ?_
  simp only [startS, List.map_cons, List.map_nil, List.length_cons, List.length_nil, List.replicate, List.cons_append, List.nil_append, Nat.reduceAdd, Nat.reduceSub, ex_par, ev_call, evs_cons, evs_nil, ev_x, getS_succ, getS_zero, ofO_some, bind_ok', ev_bi, movesV, bi_len_tup, List.length_map, wp_bind, wp_ok]
  refine wp.mono (take_spec (m := m + 2) h (by omega) (by omega)) ?_
  rintro v T ⟨r, d1, rfl, hr0, hr1, rfl, hd1⟩
  obtain ⟨k, rfl⟩ := Int.eq_ofNat_of_zero_le hr0
  have hk : k < ms.length := by omega
  obtain ⟨rs, hrs1, _, hrs2⟩ := row_at hk
  obtain ⟨e1, e3, ega⟩ := g.each rs hrs2
  obtain ⟨r0, rest, rfl⟩ : ∃ r0 rest, rs = r0 :: rest := by
    cases rs with
    | nil => simp at e1
    | cons a l => exact ⟨a, l, rfl⟩
  simp only [wp_ok, List.length_cons, List.length_nil, if_true, setAll_cons, setAll_nil, setS_succ, setS_zero, wK_nx]
  have ix1 : ∀ S : Store, index (.tup (ms.map rowsV)) (.int k) S = .ok (.tup (rowV r0 :: rest.map rowV)) S := fun S => index_of rfl (atI_nat (by rw [List.getElem?_map, hrs1]; rfl))
  refine wp_cons ?_
  simp only [ex_set, ev_idx, ev_x, ev_ki, getS_succ, getS_zero, ofO_some, bind_ok', ix1, idx_t0, evg_x, nxG_ok, wp_ok, setS_succ, setS_zero, wK_nx]
  refine wp_cons ?_
  have mt : ∀ (S : Store) (v : PV), binop .mul false (.tup [v]) (.int ms.length) S = .ok (.tup (List.replicate ms.length v)) S := fun S v => mul_t1 (by omega)
  have ml : ∀ (S : Store) (v : PV), binop .mul false (.lst [v]) (.int ms.length) S = .ok (.lst (List.replicate ms.length v)) S := fun S v => mul_l1 (by omega)
  have mt1 : ∀ (S : Store) (v : PV), binop .mul false (.tup [v]) (.int ((ms.length : Int) - 1)) S = .ok (.tup (List.replicate (ms.length - 1) v)) S := fun S v => by
    have := mul_t1 (S := S) (mm := false) (v := v) (k := ms.length - 1) (by omega)
    rwa [show ((ms.length - 1 : Nat) : Int) = (ms.length : Int) - 1 by omega] at this
  have if1 : ∀ (k : Nat) {α : Type} (a b : Rs α), k ≤ 20 → (if k ≤ line then a else b) = a := fun k α a b h => if_pos (by simp [line]; omega)
  have ad : ∀ (S : Store) (xs ys : List PV), xs.length + ys.length ≤ 100 → binop .add false (.tup xs) (.tup ys) S = .ok (.tup (xs ++ ys)) S := fun S xs ys h => add_tup (by simp [line]; omega)
  have al : ∀ (S : Store) (xs ys : List PV), xs.length + ys.length ≤ 100 → binop .add false (.lst xs) (.lst ys) S = .ok (.lst (xs ++ ys)) S := fun S xs ys h => add_lst (by simp [line]; omega)
  simp only [ex_set, ev_lst, ev_tup, evs_cons, evs_nil, ev_ki, ev_kn, ev_bin, ev_x, getS_succ, getS_zero, ofO_some, bind_ok', List.length_cons, List.length_nil, Nat.reduceAdd, if1 _ _ _ (show 1 ≤ 20 by decide), if1 _ _ _ (show 2 ≤ 20 by decide), if1 _ _ _ (show 3 ≤ 20 by decide), if1 _ _ _ (show 6 ≤ 20 by decide), mkL_false, mt, ml]
  rw [ad _ _ _ (by simp; omega)]
  simp only [bind_ok', if1 _ _ _ (show 1 ≤ 20 by decide), if1 _ _ _ (show 2 ≤ 20 by decide), if1 _ _ _ (show 6 ≤ 20 by decide), evg_x, nxG_ok, wp_ok, setS_succ, setS_zero, wK_nx, mkL_false]
  refine wp_cons ?_
  simp only [ex_set, ev_lst, ev_tup, evs_cons, evs_nil, ev_ki, ev_kb, ev_neg, negV_int, ev_kn, ev_bin, ev_x, getS_succ, getS_zero, ofO_some, bind_ok', sub_int, List.length_cons, List.length_nil, Nat.reduceAdd, if1 _ _ _ (show 1 ≤ 20 by decide), if1 _ _ _ (show 2 ≤ 20 by decide), mkL_false, mt, mt1]
  have ad1 : ∀ (S : Store) (v z : PV), binop .add false (.tup [v]) (.tup (List.replicate (ms.length - 1) z)) S = .ok (.tup (v :: List.replicate (ms.length - 1) z)) S := fun S v z => ad S _ _ (by simp; omega)
  simp only [ad1, bind_ok', List.length_cons, List.length_nil, Nat.reduceAdd, if1 _ _ _ (show 1 ≤ 20 by decide), if1 _ _ _ (show 2 ≤ 20 by decide), if1 _ _ _ (show 4 ≤ 20 by decide), mkL_false, wp_ok]
  rw [al _ _ _ (by simp)]
  simp only [bind_ok', evg_x, nxG_ok, wp_ok, setS_succ, setS_zero, wK_nx]
  generalize hbr : ([PV.tup [PV.int 0, PV.tup (List.replicate ms.length (PV.int 0))], PV.tup [PV.int 1, PV.tup (List.replicate ms.length (PV.int 1) ++ [PV.int 0])], PV.tup [PV.int 1, PV.lst (List.replicate ms.length (PV.int 0))], PV.lst [PV.int 1, PV.tup (List.replicate ms.length (PV.int 0))], PV.tup [PV.int 1, PV.tup (List.replicate ms.length (PV.int 0)), PV.int 0], PV.non] ++ [PV.tup [PV.bl true, PV.tup (List.replicate ms.length (PV.int 0))], PV.tup [PV.int 1, PV.tup (PV.bl true :: List.replicate (ms.length - 1) (PV.int 0))], PV.tup [PV.int 1, PV.tup (PV.int (-1) :: List.replicate (ms.length - 1) (PV.int 0))], PV.tup [PV.int 2, PV.tup (PV.int 3 :: List.replicate (ms.length - 1) (PV.int 0))]] : List PV) = br
  have hbr' : br = badRows ms.length := by rw [← hbr]; rfl
  subst hbr'
  clear hbr
  -- bent
  refine wp_cons ?_
  have st : ∀ S : Store, slcV false (.tup (ms.map rowsV)) none (some (k : Int)) S = .ok (.tup ((ms.map rowsV).take k)) S := fun S => by rw [slcV_tup, cut_to]
  have sf : ∀ S : Store, slcV false (.tup (ms.map rowsV)) (some ((k : Int) + 1)) none S = .ok (.tup ((ms.map rowsV).drop (k + 1))) S := fun S => by rw [slcV_tup, cut_from1]
  have s2 : ∀ S : Store, slcV false (.tup (rowV r0 :: rest.map rowV)) none (some 2) S = .ok (.tup ((rowV r0 :: rest.map rowV).take 2)) S := fun S => by rw [slcV_tup, show (2 : Int) = ((2 : Nat) : Int) from rfl, cut_to]
  have bm : ∀ (S : Store) (v : PV), binop .add false (.tup ((ms.map rowsV).take k)) (.tup [v]) S = .ok (.tup ((ms.map rowsV).take k ++ [v])) S := fun S v => ad S _ _ (by simp; omega)
  have bm2 : ∀ (S : Store) (v : PV), binop .add false (.tup ((ms.map rowsV).take k ++ [v])) (.tup ((ms.map rowsV).drop (k + 1))) S = .ok (.tup (bent (ms.map rowsV) k v)) S := fun S v => by
    rw [ad S _ _ (by simp; omega)]
    simp [bent]
  have ar : ∀ (S : Store) (v : PV), binop .add false (.tup ((rowV r0 :: rest.map rowV).take 2)) (.tup [v]) S = .ok (.tup ((rowV r0 :: rest.map rowV).take 2 ++ [v])) S := fun S v => ad S _ _ (by simp; omega)
  simp only [ex_set, ev_bin, ev_slc, ev_idx, ev_x, evo_none, evo_some, okI_int, ev_ki, add_int, getS_succ, getS_zero, ofO_some, bind_ok', ev_tup, evs_cons, evs_nil, ev_call, st, ix1, s2, wp_bind, wp_ok]
  refine wp.mono (pick_lf (m := m + 1) hd1 (pls_lfs badRows_pl) (by simp [badRows]) (by simp [badRows])) ?_
  rintro bad T ⟨hbad, d2, rfl, hd2⟩
  have hbp := pls_mem badRows_pl hbad
  have hbc := badRows_bad h1 hbad
  simp only [wp_ok, List.length_cons, List.length_nil, Nat.reduceAdd, if1 _ _ _ (show 1 ≤ 20 by decide), ar, bm, sf, bm2, evg_x, nxG_ok, setS_succ, setS_zero, wK_nx]
  refine wp_cons ?_
  have sd : ∀ S : Store, slcV false (.tup (ms.map rowsV)) none (some 1) S = .ok (.tup ((ms.map rowsV).take 1)) S := fun S => by rw [slcV_tup, show (1 : Int) = ((1 : Nat) : Int) from rfl, cut_to]
  have dbl : ∀ S : Store, binop .add false (.tup (ms.map rowsV)) (.tup ((ms.map rowsV).take 1)) S = .ok (.tup (ms.map rowsV ++ (ms.map rowsV).take 1)) S := fun S => ad S _ _ (by simp; omega)
  simp only [ex_set, ev_lst, ev_dct, ev_kn, ev_ks, ev_bin, ev_slc, ev_x, evo_none, evo_some, okI_int, ev_ki, add_int, getS_succ, getS_zero, ofO_some, bind_ok', ev_tup, evs_cons, evs_nil, st, sf, sd, dbl, bm, bm2, wp_bind, wp_ok, List.length_cons, List.length_nil, Nat.reduceAdd, if1 _ _ _ (show 0 ≤ 20 by decide), if1 _ _ _ (show 1 ≤ 20 by decide), if1 _ _ _ (show 8 ≤ 20 by decide), dS_len, dS_app, List.zip_nil_left, dkmerge, List.foldl_nil, mkL_false, evg_x, nxG_ok, setS_succ, setS_zero, wK_nx]
  refine wp_last ?_
  simp only [ex_ret, ev_call, ev_lst, ev_bin, ev_slc, ev_x, evo_none, evo_some, okI_int, ev_ki, add_int, getS_succ, getS_zero, ofO_some, bind_ok', ev_tup, evs_cons, evs_nil, st, sf, bm, bm2, wp_bind, wp_ok, List.length_cons, List.length_nil, Nat.reduceAdd, if1 _ _ _ (show 1 ≤ 20 by decide), if1 _ _ _ (show 4 ≤ 20 by decide), if1 _ _ _ (show 6 ≤ 20 by decide), mkL_false]
  rw [al _ _ _ (by simp)]
  simp only [wp_ok, List.cons_append, List.nil_append]
  have hbent : ∀ w : PV, pl w = true → pl (.tup (bent (ms.map rowsV) k w)) = true := fun w hw => pls_bent (pls_map (fun r => pl_rowsV r) ms) hw
  have hbB : ∀ w : PV, rsB ms.length w = false → aremB (.tup (bent (ms.map rowsV) k w)) = false := fun w hw => aremB_mem (List.mem_of_getElem? (bent_at (by simpa using hk))) (by rw [bent_len (by simpa using hk), List.length_map]; exact hw)
  have p4 : pl (.tup [rowV r0, rowV r0, rowV r0, rowV r0]) = true := by simp
  have pb : pl (.tup ((rowV r0 :: rest.map rowV).take 2 ++ [bad])) = true := by
    have : pls ((rowV r0 :: rest.map rowV).take 2) = true := pls_of fun x hx => by
      have := List.mem_of_mem_take hx
      rcases List.mem_cons.mp this with rfl | this
      · simp
      · obtain ⟨r, _, rfl⟩ := List.mem_map.mp this
        simp
    rw [pl_tup, pls_append, this]
    simp [hbp]
  have pd : pls (ms.map rowsV ++ (ms.map rowsV).take 1) = true := by
    have h0 : pls (ms.map rowsV) = true := pls_map (fun r => pl_rowsV r) ms
    have : pls ((ms.map rowsV).take 1) = true := pls_of fun x hx => pls_mem h0 (List.mem_of_mem_take hx)
    simp only [pls_append, h0, this, Bool.and_self]
  refine wp.mono (pick_spec (m := m) (hd2.mono (by omega)) (xs := [.non, .tup [], .int 5, .tup (ms.map rowsV ++ (ms.map rowsV).take 1), .tup (bent (ms.map rowsV) k (.tup [])), .str (PySem.Str.ofString "moves"), .loc (R.length + 2), .tup (bent (ms.map rowsV) k (rowV r0)), .tup (bent (ms.map rowsV) k (.tup [rowV r0, rowV r0, rowV r0, rowV r0])), .tup (bent (ms.map rowsV) k (.tup ((rowV r0 :: rest.map rowV).take 2 ++ [bad]))), .tup (bent (ms.map rowsV) k (.tup ((rowV r0 :: rest.map rowV).take 2 ++ [bad]))), .tup (bent (ms.map rowsV) k (.tup ((rowV r0 :: rest.map rowV).take 2 ++ [bad]))), .tup (bent (ms.map rowsV) k (.tup ((rowV r0 :: rest.map rowV).take 2 ++ [bad]))), .tup (bent (ms.map rowsV) k (.tup ((rowV r0 :: rest.map rowV).take 2 ++ [bad])))]) (fun _ => rfl) (by simp) (by simp) (fun v hv d' => ?_)) ?_
  · simp only [List.mem_cons, List.not_mem_nil, or_false] at hv
    rcases hv with rfl | rfl | rfl | rfl | rfl | rfl | rfl | rfl | rfl | rfl | rfl | rfl | rfl | rfl
    · exact frz_lf rfl
    · exact frz_lf rfl
    · exact frz_lf rfl
    · exact frz_lf (pl_lf (x := .tup _) pd)
    · exact frz_lf (pl_lf (hbent _ rfl))
    · exact frz_lf rfl
    · unfold frz
      rw [if_neg (by simp)]
      dsimp only
      rw [if_pos (by simp)]
    · exact frz_lf (pl_lf (hbent _ (by simp)))
    · exact frz_lf (pl_lf (hbent _ p4))
    all_goals exact frz_lf (pl_lf (hbent _ pb))
  · rintro v T ⟨hv, d', rfl, hd'⟩
    simp only [wOut]
    have hp : R <+: R ++ [Cl.dct []] := List.prefix_append _ _
    have go : ∀ v : PV, pl v = true → aremB v = false → wp (leave (dS d R).length (dS d R) (dS d' (R ++ [Cl.dct []])) v) Q ff := fun v h1 h2 => wp_leave hp (frz_lf (pl_lf h1)) (hQ v d' h1 h2 hd')
    have gob : wp (leave (dS d R).length (dS d R) (dS d' (R ++ [Cl.dct []])) (.tup (bent (ms.map rowsV) k (.tup ((rowV r0 :: rest.map rowV).take 2 ++ [bad]))))) Q ff :=
      go _ (hbent _ pb) (hbB _ (rsB_row (r := bad) rfl (List.mem_append_right _ List.mem_cons_self) hbc))
    simp only [List.mem_cons, List.not_mem_nil, or_false] at hv
    rcases hv with rfl | rfl | rfl | rfl | rfl | rfl | rfl | rfl | rfl | rfl | rfl | rfl | rfl | rfl
    · exact go _ rfl rfl
    · exact go _ rfl rfl
    · exact go _ rfl rfl
    · refine go _ pd ?_
      have hg0 := g.each
      obtain ⟨z, zs', hz⟩ : ∃ z zs', ms = z :: zs' := by
        cases ms with
        | nil => simp at h1
        | cons a l => exact ⟨a, l, rfl⟩
      have hzm : z ∈ ms := by rw [hz]; simp
      obtain ⟨f1, f3, fg⟩ := hg0 z hzm
      obtain ⟨y, ys, hy⟩ : ∃ y ys, z = y :: ys := by
        cases z with
        | nil => simp at f1
        | cons a l => exact ⟨a, l, rfl⟩
      refine aremB_mem (w := rowsV z) (List.mem_append_left _ (List.mem_map.mpr ⟨z, hzm, rfl⟩)) (rsB_row (rs := z.map rowV) (r := rowV y) rfl (by rw [hy]; simp) ?_)
      have hlen := (fg y (by rw [hy]; simp)).ok.len
      have hl2 : (ms.map rowsV ++ (ms.map rowsV).take 1).length = ms.length + 1 := by simp; omega
      rw [hl2]
      simp [crowB, rowV, cntB, hlen]
      intro _ h
      omega
    · exact go _ (hbent _ rfl) (hbB _ rfl)
    · exact go _ rfl rfl
    · refine wp_leave (w := .dic) hp ?_ (hQ _ _ rfl rfl hd')
      unfold frz
      rw [if_neg (by simp)]
      dsimp only
      rw [if_neg (by omega), show (dS d' (R ++ [Cl.dct []]))[R.length + 2]? = some (Cl.dct []) by rw [dS_at]; exact new_at]
    · exact go _ (hbent _ (by simp)) (hbB _ (rsB_row (rs := [.int r0.1, .tup (r0.2.map .int)]) (r := .int r0.1) rfl (by simp) rfl))
    · exact go _ (hbent _ p4) (hbB _ rfl)
    all_goals exact gob
end
end Sv
end

section
set_option linter.all false
set_option maxRecDepth 10000
/-! traps of houses and of plans -/
namespace Sv
open PySem
theorem sub_sum {f : Nat → Int} (hf : ∀ p, 0 ≤ f p) {A B : List Nat} (h : A.Sublist B) : (A.map f).sum ≤ (B.map f).sum := by
  induction h with
  | slnil => simp
  | cons a _ ih =>
    simp only [List.map_cons, List.sum_cons]
    have := hf a
    omega
  | cons_cons a _ ih =>
    simp only [List.map_cons, List.sum_cons]
    omega
theorem range_getD {l : List Int} {n : Nat} (h : l.length = n) : (List.range n).map (fun p => l.getD p 0) = l := by
  refine List.ext_getElem (by simp [h]) fun i h1 h2 => ?_
  simp [h2]
theorem stays_mono {r : Row} {n : Nat} {A B : List Nat} (hr : RowOk n r) (h : staysB r A = true) (hAB : A.Sublist B) (hB : B.Sublist (List.range n)) : staysB r B = true := by
  have hf : ∀ p, 0 ≤ r.2.getD p 0 := fun p => by
    rw [List.getD_eq_getElem?_getD]
    cases e : r.2[p]? with
    | none => simp
    | some x => exact hr.nn x (List.mem_of_getElem? e)
  have h1 := sub_sum hf hAB
  have h2 := sub_sum hf hB
  rw [range_getD hr.len] at h2
  have h3 := hr.sum
  have h4 : (A.map fun p => r.2.getD p 0).sum = r.1 := of_decide_eq_true h
  exact decide_eq_true (by omega)
def Fix (ms : List (List Row)) (L : List Nat) : Prop := ∀ p ∈ L, ∃ r ∈ ms.getD p [], staysB r L = true
theorem fix_step {ms : List (List Row)} (ok : MovesOk ms) {A L : List Nat} (hA : Fix ms A) (hAL : A.Sublist L) (hL : L.Sublist (List.range ms.length)) : A.Sublist (stepL ms L) := by
  have h1 := List.Sublist.filter (fun p => (ms.getD p []).any fun r => staysB r L) hAL
  have h2 : A.filter (fun p => (ms.getD p []).any fun r => staysB r L) = A := List.filter_eq_self.mpr fun p hp => by
    obtain ⟨r, hr, hs⟩ := hA p hp
    have hlt : p < ms.length := List.mem_range.mp ((hAL.trans hL).subset hp)
    obtain ⟨rs, e1, e2, e3⟩ := row_at hlt
    rw [e2] at hr ⊢
    exact List.any_eq_true.mpr ⟨r, hr, stays_mono ((ok.each rs e3).2.2 r hr).1 hs hAL hL⟩
  rw [h2] at h1
  exact h1
theorem fix_it {ms : List (List Row)} (ok : MovesOk ms) {A : List Nat} (hA : Fix ms A) : ∀ {n : Nat} {L : List Nat}, A.Sublist L → L.Sublist (List.range ms.length) → A.Sublist (itL ms n L)
  | 0, _, h, _ => h
  | n + 1, L, h, hL => fix_it ok hA (n := n) (L := stepL ms L) (fix_step ok hA h hL) ((List.filter_sublist).trans hL)
theorem it_sub {ms : List (List Row)} : ∀ {n : Nat} {L : List Nat}, (itL ms n L).Sublist L
  | 0, _ => List.Sublist.refl _
  | n + 1, L => (it_sub (n := n) (L := stepL ms L)).trans List.filter_sublist
theorem it_fix {ms : List (List Row)} {L : List Nat} (h : stepL ms L = L) : ∀ n : Nat, itL ms n L = L
  | 0 => rfl
  | n + 1 => by show itL ms n (stepL ms L) = L; rw [h, it_fix h n]
theorem it_stable {ms : List (List Row)} : ∀ {n : Nat} {L : List Nat}, L.length ≤ n → stepL ms (itL ms n L) = itL ms n L
  | 0, L, h => by
    have : L = [] := List.eq_nil_of_length_eq_zero (by omega)
    subst this
    rfl
  | n + 1, L, h => by
    by_cases e : stepL ms L = L
    · rw [it_fix e, e]
    · have hlt : (stepL ms L).length < L.length := by
        rcases Nat.lt_or_ge (stepL ms L).length L.length with z | z
        · exact z
        · exact absurd ((List.filter_sublist (p := fun p => (ms.getD p []).any fun r => staysB r L)).eq_of_length_le z) e
      exact it_stable (n := n) (L := stepL ms L) (by omega)
theorem trap_fix {ms : List (List Row)} : Fix ms (trapL ms) := fun p hp => by
  have h := it_stable (ms := ms) (n := ms.length) (L := List.range ms.length) (by simp)
  have hp' : p ∈ stepL ms (trapL ms) := by
    show p ∈ stepL ms (itL ms ms.length (List.range ms.length))
    rw [h]
    exact hp
  obtain ⟨_, h2⟩ := List.mem_filter.mp hp'
  obtain ⟨r, hr, hs⟩ := List.any_eq_true.mp h2
  exact ⟨r, hr, hs⟩
theorem trap_sub {ms : List (List Row)} : (trapL ms).Sublist (List.range ms.length) := it_sub
/-- one move each -/
def single (ms : List (List Row)) (p : List Nat) : List (List Row) := (planRows ms p).map fun r => [r]
theorem single_ok {ms : List (List Row)} {p : List Nat} (ok : MovesOk ms) (h : PlanOk ms p) : MovesOk (single ms p) := by
  have hl : (single ms p).length = ms.length := by simp [single, planRows_len h]
  refine ⟨by rw [hl]; exact ok.one, by rw [hl]; exact ok.eight, fun rs hrs => ?_⟩
  obtain ⟨r, hr, rfl⟩ := List.mem_map.mp hrs
  obtain ⟨rs, h1, h2⟩ := planRows_mem h hr
  refine ⟨by simp, by simp, fun q hq => ?_⟩
  simp at hq
  subst hq
  rw [hl]
  exact (ok.each rs h1).2.2 _ h2
theorem single_at {ms : List (List Row)} {p : List Nat} (h : PlanOk ms p) {i : Nat} {rs : List Row} (hi : ms[i]? = some rs) : ∃ (k : Nat) (hk : k < rs.length), p[i]? = some k ∧ (single ms p).getD i [] = [rs[k]] := by
  have hlt : i < p.length := by rw [h.len]; exact (List.getElem?_eq_some_iff.mp hi).1
  have hk := h.each i rs p[i] hi (List.getElem?_eq_getElem hlt)
  refine ⟨p[i], hk, List.getElem?_eq_getElem hlt, ?_⟩
  have e : (ms.zip p)[i]? = some (rs, p[i]) := by
    rw [List.getElem?_zip_eq_some]
    exact ⟨hi, List.getElem?_eq_getElem hlt⟩
  rw [List.getD_eq_getElem?_getD, single, planRows, List.getElem?_map, List.getElem?_map, e]
  simp [hk]
theorem trap_of_plan {ms : List (List Row)} {p : List Nat} (ok : MovesOk ms) (h : PlanOk ms p) (ht : trapL (single ms p) ≠ []) : trapL ms ≠ [] := by
  have hl : (single ms p).length = ms.length := by simp [single, planRows_len h]
  have hsub : (trapL (single ms p)).Sublist (List.range ms.length) := by rw [← hl]; exact trap_sub
  have hA : Fix ms (trapL (single ms p)) := fun i hi => by
    obtain ⟨r, hr, hs⟩ := trap_fix i hi
    have hlt : i < ms.length := List.mem_range.mp (hsub.subset hi)
    obtain ⟨rs, e1, e2, e3⟩ := row_at hlt
    obtain ⟨k, hk, _, e4⟩ := single_at h e1
    rw [e4] at hr
    simp at hr
    subst hr
    exact ⟨_, by rw [e2]; exact List.getElem_mem hk, hs⟩
  have := fix_it ok hA (n := ms.length) hsub (List.Sublist.refl _)
  intro e
  rw [show itL ms ms.length (List.range ms.length) = trapL ms from rfl, e] at this
  exact ht (List.sublist_nil.mp this)
/-- the plan of the first moves that stay -/
def stayPlan (ms : List (List Row)) (L : List Nat) : List Nat := ms.map fun rs => rs.findIdx fun r => staysB r L
def stayPlan' (ms : List (List Row)) (L : List Nat) : List Nat := ms.map fun rs => if (rs.findIdx fun r => staysB r L) < rs.length then rs.findIdx fun r => staysB r L else 0
theorem stayPlan_ok {ms : List (List Row)} {L : List Nat} (ok : MovesOk ms) : PlanOk ms (stayPlan' ms L) := ⟨by simp [stayPlan'], fun i rs k h1 h2 => by
  rw [stayPlan', List.getElem?_map, h1] at h2
  simp at h2
  subst h2
  have := (ok.each rs (List.mem_of_getElem? h1)).1
  split <;> omega⟩
theorem plan_of_trap {ms : List (List Row)} (ok : MovesOk ms) (ht : trapL ms ≠ []) : ∃ p, PlanOk ms p ∧ trapL (single ms p) ≠ [] := by
  refine ⟨stayPlan' ms (trapL ms), stayPlan_ok ok, ?_⟩
  have h := stayPlan_ok (L := trapL ms) ok
  have hl : (single ms (stayPlan' ms (trapL ms))).length = ms.length := by simp [single, planRows_len h]
  have hA : Fix (single ms (stayPlan' ms (trapL ms))) (trapL ms) := fun i hi => by
    obtain ⟨r, hr, hs⟩ := trap_fix i hi
    have hlt : i < ms.length := List.mem_range.mp (trap_sub.subset hi)
    obtain ⟨rs, e1, e2, e3⟩ := row_at hlt
    rw [e2] at hr
    obtain ⟨k, hk, ek, e4⟩ := single_at h e1
    have hlt2 : (rs.findIdx fun r => staysB r (trapL ms)) < rs.length := List.findIdx_lt_length_of_exists ⟨r, hr, hs⟩
    rw [stayPlan', List.getElem?_map, e1] at ek
    simp only [Option.map_some, Option.some.injEq] at ek
    rw [if_pos hlt2] at ek
    subst ek
    exact ⟨_, by rw [e4]; simp, List.findIdx_getElem (w := hlt2)⟩
  have h3 := fix_it (single_ok ok h) hA (n := ms.length) (L := List.range ms.length) trap_sub (by rw [hl]; exact List.Sublist.refl _)
  intro e
  have e2 : ∀ sm : List (List Row), sm.length = ms.length → itL sm ms.length (List.range ms.length) = trapL sm := fun sm h => by rw [trapL, h]
  rw [e2 _ hl, e] at h3
  exact ht (List.sublist_nil.mp h3)
/-- the list of all plans -/
def Pl : List (List Row) → List Nat → Prop
  | [], [] => True
  | rs :: ms, k :: p => k < rs.length ∧ Pl ms p
  | _, _ => False
theorem mem_plans : ∀ {ms : List (List Row)} {F : List (List Nat)} {p : List Nat}, p ∈ plansL ms F ↔ ∃ q ∈ F, ∃ s, p = q ++ s ∧ Pl ms s
  | [], F, p => by
    constructor
    · intro h
      exact ⟨p, h, [], by simp, trivial⟩
    · rintro ⟨q, hq, s, rfl, hs⟩
      cases s with
      | nil => simpa [plansL] using hq
      | cons a s => exact hs.elim
  | rs :: ms, F, p => by
    show p ∈ plansL ms _ ↔ _
    rw [mem_plans]
    constructor
    · rintro ⟨q, hq, s, rfl, hs⟩
      obtain ⟨z, hz, hq⟩ := List.mem_flatMap.mp hq
      obtain ⟨k, hk, rfl⟩ := List.mem_map.mp hq
      exact ⟨z, hz, k :: s, by simp, List.mem_range.mp hk, hs⟩
    · rintro ⟨q, hq, s, rfl, hs⟩
      cases s with
      | nil => exact hs.elim
      | cons k s => exact ⟨q ++ [k], List.mem_flatMap.mpr ⟨q, hq, List.mem_map.mpr ⟨k, List.mem_range.mpr hs.1, rfl⟩⟩, s, by simp, hs.2⟩
theorem Pl_iff : ∀ {ms : List (List Row)} {p : List Nat}, Pl ms p ↔ PlanOk ms p
  | [], [] => ⟨fun _ => ⟨rfl, fun i rs k h => by simp at h⟩, fun _ => trivial⟩
  | [], a :: p => ⟨fun h => h.elim, fun h => by have := h.len; simp at this⟩
  | rs :: ms, [] => ⟨fun h => h.elim, fun h => by have := h.len; simp at this⟩
  | rs :: ms, k :: p => by
    constructor
    · rintro ⟨h1, h2⟩
      have h3 := Pl_iff.mp h2
      refine ⟨by simp [h3.len], fun i rs' k' e1 e2 => ?_⟩
      cases i with
      | zero => simp at e1 e2; subst e1 e2; exact h1
      | succ i => exact h3.each i rs' k' (by simpa using e1) (by simpa using e2)
    · intro h
      exact ⟨h.each 0 rs k rfl rfl, Pl_iff.mpr ⟨by have := h.len; simpa using this, fun i rs' k' e1 e2 => h.each (i + 1) rs' k' (by simpa using e1) (by simpa using e2)⟩⟩
theorem plans_iff {ms : List (List Row)} {p : List Nat} : p ∈ plansL ms [[]] ↔ PlanOk ms p := by
  rw [mem_plans, ← Pl_iff]
  constructor
  · rintro ⟨q, hq, s, rfl, hs⟩
    simp at hq
    subst hq
    exact hs
  · intro h
    exact ⟨[], by simp, p, by simp, h⟩
/-- there is a trap where some plan has one -/
theorem shut_iff {ms : List (List Row)} (ok : MovesOk ms) : ((plansL ms [[]]).any fun p => !(trapL (single ms p)).isEmpty) = !(trapL ms).isEmpty := by
  cases h : trapL ms with
  | nil =>
    show _ = false
    rw [List.any_eq_false]
    intro p hp
    have : trapL (single ms p) = [] := Classical.byContradiction fun z => trap_of_plan ok (plans_iff.mp hp) z h
    simp [this]
  | cons a l =>
    show _ = true
    obtain ⟨p, hp, ht⟩ := plan_of_trap ok (by rw [h]; simp)
    rw [List.any_eq_true]
    refine ⟨p, plans_iff.mpr hp, ?_⟩
    cases e : trapL (single ms p) with
    | nil => exact absurd e ht
    | cons b l => rfl
end Sv
end

section
set_option linter.all false
set_option maxRecDepth 10000
/-! the law's lambdas; small steps of the law -/
namespace Sv
open PySem
/-- a lambda of law: 0 _law_told -/
def d_lam535 : FD := .lam 1 1 ((.call 110 (.cons (.idx (.x 0) (.ki 0)) .nil)))
class K_lam535 (U : Nat → Option FD) : Prop extends K_House___init__ U where
  h535 : U 535 = some d_lam535
/-- a lambda of law: 0 _law_error -/
def d_lam536 : FD := .lam 1 1 ((.isi (.x 0) [.cls 2]))
class K_lam536 (U : Nat → Option FD) : Prop where
  h536 : U 536 = some d_lam536
/-- a lambda of law: 0 _law_told -/
def d_lam537 : FD := .lam 1 1 ((.call 373 (.cons (.idx (.x 0) (.ki 0)) (.cons (.idx (.x 0) (.ki 1)) .nil))))
class K_lam537 (U : Nat → Option FD) : Prop extends K_walk_of U where
  h537 : U 537 = some d_lam537
/-- a lambda of law: 0 _law_error -/
def d_lam538 : FD := .lam 1 1 ((.isi (.x 0) [.cls 4]))
class K_lam538 (U : Nat → Option FD) : Prop where
  h538 : U 538 = some d_lam538
/-- a lambda of law: 0 _law_told -/
def d_lam539 : FD := .lam 1 1 ((.call 374 (.cons (.idx (.x 0) (.ki 0)) .nil)))
class K_lam539 (U : Nat → Option FD) : Prop extends K_trap U where
  h539 : U 539 = some d_lam539
/-- a lambda of law: 0 _law_error -/
def d_lam540 : FD := .lam 1 1 ((.isi (.x 0) [.cls 3]))
class K_lam540 (U : Nat → Option FD) : Prop where
  h540 : U 540 = some d_lam540
/-- law: 0 _law_script, 1 _law_draw, 2 _law_turn, 3 _law_many, 4 _law_moves, 5 _law_house_here, 6 _law_other, 7 _law_plan, 8 _law_due, 9 _law_lot, 10 _law_first, 11 _law_place, 12 _law_some, 13 _law_shut, 14 _law_bads, 15 _law_one, 16 _law_k, 17 _law_row -/
def b_law_v10 : Ts := (.cons (.set (.x 1) (.call 244 (.cons (.x 0) .nil))) (.cons (.for (.x 2) (.range1 (.ki 2)) (.cons (.set (.x 3) (.call 258 (.cons (.x 1) (.cons (.ite (.v (.cmp .eq (.x 2) (.ki 0))) (.ki 8) (.ki 4)) .nil)))) (.cons (.set (.x 4) (.call 375 (.cons (.x 1) (.cons (.x 3) (.cons (.cmp .eq (.call 246 (.cons (.x 1) (.cons (.ki 4) .nil))) (.ki 0)) .nil))))) (.cons (.set (.x 5) (.call 110 (.cons (.call 382 (.cons (.x 1) (.cons (.x 4) .nil))) .nil))) (.cons (.ifs (.or (.v (.cmp .ne (.att (.x 5) [(110, 0)]) (.x 4))) (.or (.v (.cmp .ne (.att (.x 5) [(100, 1), (110, 1)]) (.x 3))) (.not (.v (.cmp .eq (.x 5) (.callk 110 [0] (.cons (.x 4) .nil))))))) (.cons (.ret (.kb false)) .nil) .nil) (.cons (.set (.x 6) (.ite (.v (.cmp .lt (.bi .len (.idx (.x 4) (.neg (.ki 1)))) (.ki 3))) (.bin .add false (.slc false (.x 4) .none (.some (.neg (.ki 1)))) (.tup (.cons (.bin .add false (.idx (.x 4) (.neg (.ki 1))) (.tup (.cons (.tup (.cons (.ki 1) (.cons (.bin .mul false (.tup (.cons (.ki 0) .nil)) (.x 3)) .nil))) .nil))) .nil))) (.bin .add false (.slc false (.x 4) .none (.some (.neg (.ki 1)))) (.tup (.cons (.slc false (.idx (.x 4) (.neg (.ki 1))) .none (.some (.ki 2))) .nil))))) (.cons (.ifs (.or (.v (.cmp .eq (.x 5) (.call 110 (.cons (.x 6) .nil)))) (.v (.cmp .eq (.x 5) (.x 4)))) (.cons (.ret (.kb false)) .nil) .nil) (.cons (.set (.x 7) (.bi .tuple (.lc false [12] (.x 12) (.e (.x 4)) .none (.call 246 (.cons (.x 1) (.cons (.bi .len (.x 12)) .nil)))))) (.cons (.set (.x 8) (.call 100 (.cons (.bl .list false (.call 377 (.cons (.x 4) (.cons (.x 7) .nil)))) .nil))) (.cons (.ifs (.or (.v (.cmp .ne (.call 373 (.cons (.x 5) (.cons (.x 7) .nil))) (.x 8))) (.v (.cmp .ne (.callk 373 [1, 0] (.cons (.x 7) (.cons (.x 5) .nil))) (.x 8)))) (.cons (.ret (.kb false)) .nil) .nil) (.cons (.set (.tup (.cons (.x 9) (.cons (.x 10) .nil))) (.tup (.cons (.call 378 (.cons (.x 4) .nil)) (.cons (.lst true .nil) .nil)))) (.cons (.for (.tup (.cons (.x 11) (.cons (.x 12) .nil))) (.enum (.x 4)) (.cons (.app (.x 10) (.idx (.bin .add false (.lc false [16, 17] (.tup (.cons (.x 16) (.cons (.x 17) .nil))) (.enum (.x 12)) (.some (.and (.v (.cmp .isIn (.x 11) (.x 9))) (.v (.call 300 (.cons (.x 17) (.cons (.x 9) .nil)))))) (.x 16)) (.lst false (.cons (.ki 0) .nil))) (.ki 0))) .nil)) (.cons (.set (.x 8) (.ite (.v (.cmp .ne (.x 9) (.lst false .nil))) (.tup (.cons (.bi .tuple (.x 9)) (.cons (.bi .tuple (.x 10)) .nil))) .kn)) (.cons (.ifs (.or (.v (.cmp .ne (.call 374 (.cons (.x 5) .nil)) (.x 8))) (.v (.cmp .ne (.callk 374 [0] (.cons (.x 5) .nil)) (.x 8)))) (.cons (.ret (.kb false)) .nil) .nil) (.cons (.ifs (.v (.cmp .lt (.x 3) (.ki 5))) (.cons (.set (.x 13) (.lc false [15] (.x 15) (.e (.call 376 (.cons (.x 4) .nil))) (.some (.v (.cmp .ne (.call 378 (.cons (.lc false [17] (.x 17) (.e (.call 377 (.cons (.x 4) (.cons (.x 15) .nil)))) .none (.tup (.cons (.x 17) .nil))) .nil)) (.lst false .nil)))) (.ki 1))) (.cons (.ifs (.v (.cmp .ne (.cmp .ne (.x 13) (.lst false .nil)) (.isn true (.x 8)))) (.cons (.ret (.kb false)) .nil) .nil) .nil)) .nil) (.cons (.set (.x 14) (.lst true (.cons (.tup (.cons (.ki 0) (.cons (.call 379 (.cons (.x 1) (.cons (.x 4) .nil))) (.cons (.clo 540) .nil)))) .nil))) (.cons (.ifs (.not (.v (.call 276 (.cons (.x 1) (.cons (.clo 539) (.cons (.lst false (.cons (.x 5) .nil)) (.cons (.x 14) .nil))))))) (.cons (.ret (.kb false)) .nil) .nil) (.cons (.app (.x 14) (.tup (.cons (.ki 1) (.cons (.call 380 (.cons (.x 1) (.cons (.x 7) .nil))) (.cons (.clo 538) .nil))))) (.cons (.ifs (.not (.v (.call 276 (.cons (.x 1) (.cons (.clo 537) (.cons (.lst false (.cons (.x 5) (.cons (.x 7) .nil))) (.cons (.x 14) .nil))))))) (.cons (.ret (.kb false)) .nil) .nil) (.cons (.set (.x 14) (.lst true (.cons (.tup (.cons (.ki 0) (.cons (.call 381 (.cons (.x 1) (.cons (.x 4) .nil))) (.cons (.clo 536) .nil)))) .nil))) (.cons (.ifs (.not (.v (.call 276 (.cons (.x 1) (.cons (.clo 535) (.cons (.lst false (.cons (.x 4) .nil)) (.cons (.x 14) .nil))))))) (.cons (.ret (.kb false)) .nil) .nil) .nil))))))))))))))))))))) (.cons (.ret (.kb true)) .nil)))
def d_law_v10 : FD := .fn 1 18 b_law_v10
class K_law_v10 (U : Nat → Option FD) : Prop extends K_House___init__ U, K_L_bad_house U, K_L_bad_moves U, K_L_bad_plan U, K_L_begun U, K_L_first_due U, K_L_house_rows U, K_L_plans U, K_L_rows_of U, K_L_scaled_moves U, K_L_some_many U, K_L_stays U, K_L_take U, K_L_trap U, K_Walk___init__ U, K_lam535 U, K_lam536 U, K_lam537 U, K_lam538 U, K_lam539 U, K_lam540 U, K_trap U, K_walk_of U where
  h383 : U 383 = some d_law_v10
section
variable {U : Nat → Option FD} {n m : Nat} {d : Dw} {R S : Store} {Φ : Phi} {i : Nat}
theorem lam_ex {k nl C : Nat} {b : E} {vs : List PV} (h : U k = some (.lam vs.length nl b)) (hq : ev (phi U n) b (startS nl vs) S = .ex (.exc C []) S) : phi U (n + 1) k vs S = .ex (.exc C []) S := by
  have q : wp (phi U (n + 1) k vs S) (fun _ _ => False) (fun e T => e = .exc C [] ∧ T = S) := by
    refine wp_lam h rfl ?_
    rw [hq]
    simp [wErr, old_same]
  obtain ⟨e, T, h, rfl, rfl⟩ := q.ex_of
  exact h
theorem lam_isi {k C D : Nat} (h : U k = some (.lam 1 1 (.isi (.x 0) [.cls D]))) : phi U (n + 1) k [.exc C []] S = .ok (.bl (D == 0 || C == D)) S := by
  refine wp.to (wp_lam h rfl ?_)
  simp [startS]
theorem idx_dS0 {v : PV} {xs : List PV} (h : R[i]? = some (.lst (v :: xs))) : index (.loc (i + 2)) (.int 0) (dS d R) = .ok v (dS d R) := index_of (items_dS h) (atI_nat (k := 0) rfl)
theorem idx_dS1 {v w : PV} {xs : List PV} (h : R[i]? = some (.lst (v :: w :: xs))) : index (.loc (i + 2)) (.int 1) (dS d R) = .ok w (dS d R) := index_of (items_dS h) (atI_nat (k := 1) rfl)
theorem lam535 [K_lam535 U] {v : PV} {xs : List PV} (h : R[i]? = some (.lst (v :: xs))) (hv : pl v = true) (hb : aremB v = false) : phi U (n + 7) 535 [.loc (i + 2)] (dS d R) = .ex (.exc 2 []) (dS d R) := by
  refine lam_ex K_lam535.h535 ?_
  simp only [startS, List.map_cons, List.map_nil, List.length_cons, List.length_nil, List.replicate, List.append_nil, Nat.reduceAdd, Nat.reduceSub, ev_call, evs_cons, evs_nil, ev_idx, ev_x, ev_ki, getS_zero, ofO_some, bind_ok', idx_dS0 h, House_bad hv hb]
theorem lam539 [K_lam539 U] {v : PV} {xs : List PV} (h : R[i]? = some (.lst (v :: xs))) (hv : pl v = true) (hb : isHouse v = false) : phi U (n + 7) 539 [.loc (i + 2)] (dS d R) = .ex (.exc 3 []) (dS d R) := by
  refine lam_ex K_lam539.h539 ?_
  simp only [startS, List.map_cons, List.map_nil, List.length_cons, List.length_nil, List.replicate, List.append_nil, Nat.reduceAdd, Nat.reduceSub, ev_call, evs_cons, evs_nil, ev_idx, ev_x, ev_ki, getS_zero, ofO_some, bind_ok', idx_dS0 h]
  have q : wp (phi U (n + 6) 374 [v] (dS d R)) (fun _ _ => False) (fun e T => e = .exc 3 [] ∧ T = dS d R) := by
    refine wp_fn K_trap.h374 rfl ?_
    unfold b_trap
    refine wp_cons ?_
    simp [startS, need_house_bad hv hb, wErr]
    exact old_same (dS d R)
  obtain ⟨e, T, h, rfl, rfl⟩ := q.ex_of
  exact h
theorem lam537a [K_lam537 U] {v w : PV} {xs : List PV} (h : R[i]? = some (.lst (v :: w :: xs))) (hv : pl v = true) (hb : isHouse v = false) : phi U (n + 7) 537 [.loc (i + 2)] (dS d R) = .ex (.exc 3 []) (dS d R) := by
  refine lam_ex K_lam537.h537 ?_
  simp only [startS, List.map_cons, List.map_nil, List.length_cons, List.length_nil, List.replicate, List.append_nil, Nat.reduceAdd, Nat.reduceSub, ev_call, evs_cons, evs_nil, ev_idx, ev_x, ev_ki, getS_zero, ofO_some, bind_ok', idx_dS0 h, idx_dS1 h, walk_of_bad1 hv hb]
theorem lam537b [K_lam537 U] {ms : List (List Row)} {w : PV} {xs : List PV} (h : R[i]? = some (.lst (houseV ms :: w :: xs))) (h8 : ms.length ≤ 8) (hw : pl w = true) (hb : planB ms w = false) : phi U (n + 7) 537 [.loc (i + 2)] (dS d R) = .ex (.exc 4 []) (dS d R) := by
  refine lam_ex K_lam537.h537 ?_
  simp only [startS, List.map_cons, List.map_nil, List.length_cons, List.length_nil, List.replicate, List.append_nil, Nat.reduceAdd, Nat.reduceSub, ev_call, evs_cons, evs_nil, ev_idx, ev_x, ev_ki, getS_zero, ofO_some, bind_ok', idx_dS0 h, idx_dS1 h, walk_of_bad2 h8 hw hb]
theorem stand_dS {d' d'' : Dw} : stand [.loc (i + 2)] (dS d' R) (dS d'' R) := fun j hj => by
  simp at hj
  subst hj
  rfl
/-- one bad thing alone -/
theorem sub_one {b : Bad} {w : List Bad} (hn : w ≠ []) (hs : w.Sublist [b]) : w = [b] := by
  rcases List.sublist_cons_iff.mp hs with h | ⟨r, rfl, h⟩
  · exact absurd (List.sublist_nil.mp h) hn
  · rw [List.sublist_nil.mp h]
theorem sub_two {a b : Bad} {w : List Bad} (hn : w ≠ []) (hs : w.Sublist [a, b]) : w = [a] ∨ w = [b] ∨ w = [a, b] := by
  rcases List.sublist_cons_iff.mp hs with h | ⟨r, rfl, h⟩
  · exact .inr (.inl (sub_one hn h))
  · cases r with
    | nil => exact .inl rfl
    | cons c r => rw [sub_one (by simp) h]; exact .inr (.inr rfl)
theorem due_house [K_law_v10 U] {ms : List (List Row)} {v : PV} (hv : pl v = true) (hb : isHouse v = false) (hc : R[i]? = some (.lst [badV (0, v, 540)])) (h : Dok (m + 20) d) {Q : PV → Store → Prop} (hQ : ∀ d', Dok m d' → Q (.bl true) (dS d' R)) : wp (phi U (n + 8) 276 [.loc 1, .clo 539, .lst [houseV ms], .loc (i + 2)] (dS d R)) Q ff := by
  refine first_due_spec (bs := [(0, v, 540)]) (as := [houseV ms]) (fun d' => items_dS hc) (by simp) (by simp) (fun b hb => ?_) (fun _ _ => stand_dS) (fun _ => rfl) (by simp) (fun b hb => ?_) h (fun w hn hs d' R' j hj => ?_) hQ
  · simp at hb; subst hb; exact pl_lf hv
  · simp at hb; subst hb; simp
  · obtain rfl := sub_one hn hs
    refine ⟨3, lam539 (n := n) (v := v) (xs := []) (by simpa [runSets] using hj) hv hb, fun b hb => ?_⟩
    simp at hb
    subst hb
    exact lam_isi (n := n + 6) K_lam540.h540
theorem due_plan [K_law_v10 U] {ms : List (List Row)} {v w p : PV} (h8 : ms.length ≤ 8) (hv : pl v = true) (hb : isHouse v = false) (hw : pl w = true) (hwb : planB ms w = false) (hc : R[i]? = some (.lst [badV (0, v, 540), badV (1, w, 538)])) (h : Dok (m + 20) d) {Q : PV → Store → Prop} (hQ : ∀ d', Dok m d' → Q (.bl true) (dS d' R)) : wp (phi U (n + 8) 276 [.loc 1, .clo 537, .lst [houseV ms, p], .loc (i + 2)] (dS d R)) Q ff := by
  refine first_due_spec (bs := [(0, v, 540), (1, w, 538)]) (as := [houseV ms, p]) (fun d' => items_dS hc) (by simp) (by simp) (fun b hb => ?_) (fun _ _ => stand_dS) (fun _ => rfl) (by simp) (fun b hb => ?_) h (fun ws hn hs d' R' j hj => ?_) hQ
  · simp at hb
    rcases hb with rfl | rfl
    · exact pl_lf hv
    · exact pl_lf hw
  · simp at hb
    rcases hb with rfl | rfl <;> simp
  · rcases sub_two hn hs with rfl | rfl | rfl
    · refine ⟨3, lam537a (n := n) (v := v) (w := p) (xs := []) (by simpa [runSets] using hj) hv hb, fun b hb => ?_⟩
      simp at hb
      subst hb
      exact lam_isi (n := n + 6) K_lam540.h540
    · refine ⟨4, lam537b (n := n) (ms := ms) (w := w) (xs := []) (by simpa [runSets] using hj) h8 hw hwb, fun b hb => ?_⟩
      simp at hb
      subst hb
      exact lam_isi (n := n + 6) K_lam538.h538
    · refine ⟨3, lam537a (n := n) (v := v) (w := w) (xs := []) (by simpa [runSets] using hj) hv hb, fun b hb => ?_⟩
      simp at hb
      subst hb
      exact lam_isi (n := n + 6) K_lam540.h540
theorem due_moves [K_law_v10 U] {v p : PV} (hv : pl v = true) (hb : aremB v = false) (hc : R[i]? = some (.lst [badV (0, v, 536)])) (h : Dok (m + 20) d) {Q : PV → Store → Prop} (hQ : ∀ d', Dok m d' → Q (.bl true) (dS d' R)) : wp (phi U (n + 8) 276 [.loc 1, .clo 535, .lst [p], .loc (i + 2)] (dS d R)) Q ff := by
  refine first_due_spec (bs := [(0, v, 536)]) (as := [p]) (fun d' => items_dS hc) (by simp) (by simp) (fun b hb => ?_) (fun _ _ => stand_dS) (fun _ => rfl) (by simp) (fun b hb => ?_) h (fun w hn hs d' R' j hj => ?_) hQ
  · simp at hb; subst hb; exact pl_lf hv
  · simp at hb; subst hb; simp
  · obtain rfl := sub_one hn hs
    refine ⟨2, lam535 (n := n) (v := v) (xs := []) (by simpa [runSets] using hj) hv hb, fun b hb => ?_⟩
    simp at hb
    subst hb
    exact lam_isi (n := n + 6) K_lam536.h536
theorem Mv_self : ∀ ms : List (List Row), Mv (ms.map rowsV) ms
  | [] => trivial
  | rs :: ms => ⟨⟨pl_rowsV rs, rfl⟩, Mv_self ms⟩
theorem House_self [K_House___init__ U] {ms : List (List Row)} (g : Good ms) : phi U (n + 6) 110 [movesV ms] S = .ok (houseV ms) S := by
  rw [House_spec (pl_movesV ms) rfl (Mv_self ms) g.ok, g.red]
/-- the same moves but for the last place -/
def otherM (fr : List (List Row)) (la : List Row) : List (List Row) := if la.length < 3 then fr ++ [la ++ [(1, List.replicate (fr.length + 1) 0)]] else fr ++ [la.take 2]
theorem other_ne (fr : List (List Row)) {la : List Row} (h : la.length ≤ 3) : fr ++ [la] ≠ otherM fr la := by
  intro e
  unfold otherM at e
  split at e
  · have := List.append_cancel_left e
    simp at this
  · have := List.append_cancel_left e
    simp only [List.cons.injEq, and_true] at this
    have := congrArg List.length this
    simp at this
    omega
theorem zero_row {many : Nat} : RowGood many (1, List.replicate many 0) := by
  refine ⟨⟨Int.le_refl _, by simp, fun x hx => by rw [List.eq_of_mem_replicate hx]; exact Int.le_refl _, by simp⟩, ?_, by show (1 : Int) ≤ 1000; decide⟩
  rw [gcdL_cons]
  simp
theorem other_good {fr : List (List Row)} {la : List Row} (g : Good (fr ++ [la])) : Good (otherM fr la) := by
  have hl : (otherM fr la).length = fr.length + 1 := by unfold otherM; split <;> simp
  have h1 := g.one
  have h8 := g.eight
  simp only [List.length_append, List.length_cons, List.length_nil] at h1 h8
  obtain ⟨a1, a2, a3⟩ := g.each la (by simp)
  have hz : ∀ r ∈ la, RowGood (fr.length + 1) r := fun r hr => by simpa using a3 r hr
  refine ⟨by rw [hl]; exact h1, by rw [hl]; exact h8, fun rs hrs => ?_⟩
  rw [hl]
  unfold otherM at hrs
  split at hrs
  · rename_i h3
    rcases List.mem_append.mp hrs with hrs | hrs
    · have := g.each rs (List.mem_append_left _ hrs)
      simpa using this
    · simp at hrs
      subst hrs
      refine ⟨by simp, by simp; omega, fun r hr => ?_⟩
      rcases List.mem_append.mp hr with hr | hr
      · exact hz r hr
      · simp at hr; subst hr; exact zero_row
  · rcases List.mem_append.mp hrs with hrs | hrs
    · have := g.each rs (List.mem_append_left _ hrs)
      simpa using this
    · simp at hrs
      subst hrs
      refine ⟨by simp; omega, by simp; omega, fun r hr => hz r (List.mem_of_mem_take hr)⟩
theorem atI_last {α : Type} {xs : List α} {a : α} : atI (xs ++ [a]) (-1) = some a := by
  have e : (xs ++ [a]).length = xs.length + 1 := by simp
  have h : ixN (xs ++ [a]).length (-1) = some xs.length := by
    rw [e]
    unfold ixN
    rw [if_neg (by omega), if_pos (by omega)]
    congr 1
    omega
  unfold atI
  rw [h]
  simp
theorem cut_front {α : Type} {xs : List α} {a : α} : cut (xs ++ [a]) none (some (-1)) = xs := by
  simp only [cut, sIx, List.drop_zero, Nat.sub_zero]
  rw [if_pos (by omega)]
  have : ((-1 : Int) + ((xs ++ [a]).length : Int)).toNat = xs.length := by simp; omega
  rw [this, List.take_left]
theorem other_ev {σ : Sg} {fr : List (List Row)} {la : List Row} (h8 : fr.length ≤ 7) (h3 : la.length ≤ 3) (h4 : getS σ 4 = some (movesV (fr ++ [la]))) (hm : getS σ 3 = some (.int ((fr.length + 1 : Nat) : Int))) : ev Φ (.ite (.v (.cmp .lt (.bi .len (.idx (.x 4) (.neg (.ki 1)))) (.ki 3))) (.bin .add false (.slc false (.x 4) .none (.some (.neg (.ki 1)))) (.tup (.cons (.bin .add false (.idx (.x 4) (.neg (.ki 1))) (.tup (.cons (.tup (.cons (.ki 1) (.cons (.bin .mul false (.tup (.cons (.ki 0) .nil)) (.x 3)) .nil))) .nil))) .nil))) (.bin .add false (.slc false (.x 4) .none (.some (.neg (.ki 1)))) (.tup (.cons (.slc false (.idx (.x 4) (.neg (.ki 1))) .none (.some (.ki 2))) .nil)))) σ S = .ok (movesV (otherM fr la)) S := by
  have ix : ∀ S : Store, index (movesV (fr ++ [la])) (.int (-1)) S = .ok (rowsV la) S := fun S => index_of (xs := (fr ++ [la]).map rowsV) rfl (by rw [List.map_append]; exact atI_last)
  have sl : ∀ S : Store, slcV false (movesV (fr ++ [la])) none (some (-1)) S = .ok (.tup (fr.map rowsV)) S := fun S => by
    unfold movesV
    rw [List.map_append, slcV_tup]
    exact congrArg (fun z => Rs.ok (PV.tup z) S) cut_front
  have if1 : ∀ (k : Nat) {α : Type} (a b : Rs α), k ≤ 20 → (if k ≤ line then a else b) = a := fun k α a b h => if_pos (by simp [line]; omega)
  have bl : ∀ S : Store, bi1 .len (rowsV la) S = .ok (.int la.length) S := fun S => by
    rw [bi_len_of (xs := la.map rowV) rfl, List.length_map]
  have mt : ∀ S : Store, binop .mul false (.tup [.int 0]) (.int ((fr.length + 1 : Nat) : Int)) S = .ok (.tup (List.replicate (fr.length + 1) (.int 0))) S := fun S => mul_t1 (by omega)
  have al1 : ∀ S : Store, binop .add false (rowsV la) (.tup [.tup [.int 1, .tup (List.replicate (fr.length + 1) (.int 0))]]) S = .ok (rowsV (la ++ [(1, List.replicate (fr.length + 1) 0)])) S := fun S => by
    unfold rowsV
    rw [add_tup (by simp [line]; omega)]
    simp [rowV]
  have ad1 : ∀ (S : Store) (v : List Row), binop .add false (.tup (fr.map rowsV)) (.tup [rowsV v]) S = .ok (movesV (fr ++ [v])) S := fun S v => by
    rw [add_tup (by simp [line]; omega)]
    simp [movesV]
  have s2 : ∀ S : Store, slcV false (rowsV la) none (some 2) S = .ok (rowsV (la.take 2)) S := fun S => by
    unfold rowsV
    rw [slcV_tup, show (2 : Int) = ((2 : Nat) : Int) from rfl, cut_to, List.map_take]
  simp only [ev_ite, evt_v, ev_cmp, ev_bi, ev_idx, ev_x, h4, hm, ofO_some, bind_ok', ev_neg, ev_ki, negV_int, ix, bl, lt_int, truth_bl, okT_some]
  unfold otherM
  by_cases hl : la.length < 3
  · rw [if_pos hl]
    simp only [show decide ((la.length : Int) < 3) = true from decide_eq_true (by omega), cond_true]
    simp only [ev_bin, ev_slc, ev_idx, ev_x, h4, hm, ofO_some, bind_ok', ev_neg, ev_ki, negV_int, evo_none, evo_some, okI_int, ix, sl, ev_tup, evs_cons, evs_nil, List.length_cons, List.length_nil, Nat.reduceAdd, if1 _ _ _ (show 1 ≤ 20 by decide), if1 _ _ _ (show 2 ≤ 20 by decide), mt, al1, ad1]
  · rw [if_neg hl]
    simp only [show decide ((la.length : Int) < 3) = false from decide_eq_false (by omega), cond_false]
    simp only [ev_bin, ev_slc, ev_idx, ev_x, h4, hm, ofO_some, bind_ok', ev_neg, ev_ki, negV_int, evo_none, evo_some, okI_int, ix, sl, s2, ev_tup, evs_cons, evs_nil, List.length_cons, List.length_nil, Nat.reduceAdd, if1 _ _ _ (show 1 ≤ 20 by decide), ad1]
/-- a plan is drawn -/
theorem plan_drawn [K_L_take U] {ms : List (List Row)} {σ : Sg} {Q : PV → Store → Prop} {E : PV → Store → Prop} (g : Good ms) (h : Dok (m + 8) d) (h4 : getS σ 4 = some (movesV ms)) (h1 : getS (wipeS σ [12]) 1 = some (.loc 1)) (h12 : ∀ v, getS (setS (wipeS σ [12]) 12 (some v)) 12 = some v) (h11 : ∀ v, getS (setS (wipeS σ [12]) 12 (some v)) 1 = some (.loc 1))
    (hQ : ∀ (p : List Nat) d', PlanOk ms p → Dok m d' → Q (.lst (natsV p)) (dS d' R)) : wp (ev (phi U (n + 2)) (.lc false [12] (.x 12) (.e (.x 4)) .none (.call 246 (.cons (.x 1) (.cons (.bi .len (.x 12)) .nil)))) σ (dS d R)) Q E := by
  have h8 := g.eight
  rw [ev_lc]
  simp only [evi_e, ev_x, h4, ofO_some, bind_ok', movesV, items_tup, itV_some]
  rw [lenG_of (by simp [line]; omega), wp_bind]
  refine wp_lc (fun xs acc T => ∃ (dn rest : List (List Row)) (p : List Nat) (d' : Dw), ms = dn ++ rest ∧ xs = rest.map rowsV ∧ acc = natsV p ∧ PlanOk dn p ∧ T = dS d' R ∧ Dok (m + xs.length) d') ?_ ?_ ?_ ⟨[], ms, [], d, rfl, rfl, rfl, ⟨rfl, fun i rs k h => by simp at h⟩, rfl, h.mono (by simp; omega)⟩
  · intro _ _ _ _
    exact stand_lf _ _ (by simp only [lfs_cons, lf_tup, lfs_nil, Bool.and_true]; exact lfs_map (fun r => pl_lf (pl_rowsV r)) ms)
  · rintro x xs acc T ⟨dn, rest, p, d', hms, hxs, rfl, hp, rfl, hd⟩
    cases rest with
    | nil => cases hxs
    | cons rs rest =>
      simp only [List.map_cons, List.cons.injEq] at hxs
      obtain ⟨rfl, rfl⟩ := hxs
      obtain ⟨e1, e3, _⟩ := g.each rs (by rw [hms]; simp)
      have bl : ∀ S : Store, bi1 .len (rowsV rs) S = .ok (.int rs.length) S := fun S => by
        rw [bi_len_of (xs := rs.map rowV) rfl, List.length_map]
      simp only [evg_x, wp_ok, evc_none, cond_true, ev_call, evs_cons, evs_nil, ev_x, h11, h12, ofO_some, bind_ok', ev_bi, bl]
      refine wp.mono (take_spec (m := m + (rest.map rowsV).length) (hd.mono (by simp; omega)) (by omega) (by omega)) ?_
      rintro v T ⟨r, d2, rfl, hr0, hr1, rfl, hd2⟩
      obtain ⟨k, rfl⟩ := Int.eq_ofNat_of_zero_le hr0
      refine ⟨dn ++ [rs], rest, p ++ [k], d2, by rw [hms]; simp, rfl, by simp [natsV], ⟨by simp [hp.len], fun i rs' k' a b => ?_⟩, rfl, hd2⟩
      by_cases hi : i < dn.length
      · rw [List.getElem?_append_left hi] at a
        rw [List.getElem?_append_left (by rw [hp.len]; exact hi)] at b
        exact hp.each i rs' k' a b
      · rw [List.getElem?_append_right (by omega)] at a
        rw [List.getElem?_append_right (by rw [hp.len]; omega), hp.len] at b
        cases hj : i - dn.length with
        | zero =>
          rw [hj] at a b
          simp at a b
          subst a b
          omega
        | succ j => rw [hj] at a; simp at a
  · rintro acc T ⟨dn, rest, p, d', hms, hxs, rfl, hp, rfl, hd⟩
    cases rest with
    | cons a l => cases hxs
    | nil =>
      simp only [List.append_nil] at hms
      subst hms
      exact hQ p d' hp (hd.mono (by simp))
end
end Sv
end

section
set_option linter.all false
set_option maxRecDepth 10000
set_option maxHeartbeats 1000000
/-! the law of houses -/
namespace Sv
open PySem
section
variable {U : Nat → Option FD} {n m : Nat} {d : Dw} {R S : Store} {Φ : Phi} {i : Nat}
theorem ivn_natsV (k : Nat) (l : List Nat) : (natsV l).all (ivn k) = true := by
  rw [List.all_eq_true]
  intro x hx
  obtain ⟨i, _, rfl⟩ := List.mem_map.mp hx
  cases k <;> rfl
theorem trapV_ne {ms : List (List Row)} : cmpop Φ .ne (trapV ms) (trapV ms) S = .ok (.bl false) S := by
  unfold trapV
  split
  · exact ne_D (x := .non) (y := .non) (fun _ _ => by simp) rfl rfl
  · have key : ∀ A B : List Nat, cmpop Φ .ne (.tup [.tup (natsV A), .tup (natsV B)]) (.tup [.tup (natsV A), .tup (natsV B)]) S = .ok (.bl false) S := fun A B => by
      have h : ivn 2 (PV.tup [.tup (natsV A), .tup (natsV B)]) = true := by
        show (ivn 1 (.tup (natsV A)) && (ivn 1 (.tup (natsV B)) && true)) = true
        rw [show ivn 1 (.tup (natsV A)) = true from ivn_natsV 0 _, show ivn 1 (.tup (natsV B)) = true from ivn_natsV 0 _]
        rfl
      rw [ne_ivn h h]
      simp
    exact key _ _
theorem trapV_non {ms : List (List Row)} : isNon (trapV ms) = (trapL ms).isEmpty := by
  unfold trapV
  cases trapL ms <;> rfl
theorem ne_bl {a b : Bool} : cmpop Φ .ne (.bl a) (.bl b) S = .ok (.bl (a != b)) S := by
  rw [ne_D (fun _ _ => by simp) rfl rfl]
  cases a <;> cases b <;> rfl
def decP : PV → List Nat
  | .tup xs => xs.map fun v => match v with | .int k => k.toNat | _ => 0
  | _ => []
@[simp] theorem decP_nats (p : List Nat) : decP (.tup (natsV p)) = p := by simp [decP, natsV, Function.comp_def]
theorem shut_ev [K_law_v10 U] {ms : List (List Row)} {σ : Sg} (g : Good ms) (hm : ms.length ≤ 4) (h4 : getS σ 4 = some (movesV ms)) (h5 : ∀ v, getS (setS (wipeS σ [15]) 15 (some v)) 4 = some (movesV ms)) (h15 : ∀ v, getS (setS (wipeS σ [15]) 15 (some v)) 15 = some v) (h17 : ∀ v w, getS (setS (wipeS (setS (wipeS σ [15]) 15 (some v)) [17]) 17 (some w)) 17 = some w) :
    ∃ l : List PV, l.isEmpty = (trapL ms).isEmpty ∧ ev (phi U (n + 12)) (.lc false [15] (.x 15) (.e (.call 376 (.cons (.x 4) .nil))) (.some (.v (.cmp .ne (.call 378 (.cons (.lc false [17] (.x 17) (.e (.call 377 (.cons (.x 4) (.cons (.x 15) .nil)))) .none (.tup (.cons (.x 17) .nil))) .nil)) (.lst false .nil)))) (.ki 1)) σ S = .ok (.lst l) S := by
  have h8 := g.eight
  have hlen : (plansL ms [[]]).length ≤ 81 := by
    have key : ∀ (ms : List (List Row)) (F : List (List Nat)), (∀ rs ∈ ms, rs.length ≤ 3) → (plansL ms F).length ≤ 3 ^ ms.length * F.length := fun ms => by
      induction ms with
      | nil => intro F _; simp [plansL]
      | cons rs ms ih =>
        intro F h
        have h1 := ih (F.flatMap fun p => (List.range rs.length).map fun k => p ++ [k]) fun r hr => h r (List.mem_cons_of_mem _ hr)
        have h2 := flatMap_len (h rs List.mem_cons_self) F
        show (plansL ms _).length ≤ _
        refine Nat.le_trans h1 ?_
        rw [List.length_cons, Nat.pow_succ, Nat.mul_assoc]
        exact Nat.mul_le_mul_left _ h2
    have h1 := key ms [[]] fun rs hrs => (g.each rs hrs).2.1
    have h2 : 3 ^ ms.length ≤ 3 ^ 4 := Nat.pow_le_pow_right (by decide) hm
    simp at h1
    omega
  refine ⟨(((plansL ms [[]]).map fun p => PV.tup (natsV p)).filter fun v => !(trapL (single ms (decP v))).isEmpty).map fun _ => .int 1, ?_, ?_⟩
  · have h := shut_iff g.ok
    cases e : (trapL ms).isEmpty with
    | true =>
      rw [e] at h
      have h2 : ((plansL ms [[]]).map fun p => PV.tup (natsV p)).filter (fun v => !(trapL (single ms (decP v))).isEmpty) = [] := by
        rw [List.filter_eq_nil_iff]
        intro v hv
        obtain ⟨p, hp, rfl⟩ := List.mem_map.mp hv
        rw [decP_nats]
        have := List.any_eq_false.mp h p hp
        exact this
      rw [h2]
      rfl
    | false =>
      rw [e] at h
      obtain ⟨p, hp, hq⟩ := List.any_eq_true.mp h
      have hmem : PV.tup (natsV p) ∈ ((plansL ms [[]]).map fun p => PV.tup (natsV p)).filter (fun v => !(trapL (single ms (decP v))).isEmpty) := List.mem_filter.mpr ⟨List.mem_map.mpr ⟨p, hp, rfl⟩, by rw [decP_nats]; exact hq⟩
      cases q : ((plansL ms [[]]).map fun p => PV.tup (natsV p)).filter (fun v => !(trapL (single ms (decP v))).isEmpty) with
      | nil => rw [q] at hmem; cases hmem
      | cons a l => rfl
  · rw [lc_filter (w := ([.lst ((plansL ms [[]]).map fun p => PV.tup (natsV p))], (plansL ms [[]]).map fun p => PV.tup (natsV p))) (by
      simp only [evi_e, ev_call, evs_cons, evs_nil, ev_x, h4, ofO_some, bind_ok']
      rw [L_plans_spec (by omega) fun rs hrs => (g.each rs hrs).2.1]
      simp) (by simp [line]; omega) (fun v => !(trapL (single ms (decP v))).isEmpty) (fun _ => .int 1) fun v hv => by
      obtain ⟨p, hp, rfl⟩ := List.mem_map.mp hv
      have hpl := plans_iff.mp hp
      refine ⟨_, rfl, ?_, fun _ => by simp⟩
      simp only [evt_v, ev_cmp, ev_call, evs_cons, evs_nil, decP_nats]
      rw [lc_map (w := ([rowsV (planRows ms p)], (planRows ms p).map rowV)) (by
        simp only [evi_e, ev_call, evs_cons, evs_nil, ev_x, h5, h15, ofO_some, bind_ok']
        rw [L_rows_of_spec (x := .non) hpl h8]
        simp [rowsV]) (by rw [List.length_map, planRows_len hpl]; simp [line]; omega) (fun r => .tup [r]) fun r hr => ⟨_, rfl, by
        simp only [ev_tup, evs_cons, evs_nil, ev_x, h17, ofO_some, bind_ok', List.length_cons, List.length_nil]
        rw [if_pos (by simp [line])]⟩]
      simp only [mkL_false, bind_ok']
      have e : ((planRows ms p).map rowV).map (fun r => PV.tup [r]) = (single ms p).map rowsV := by simp [single, rowsV, Function.comp_def]
      rw [e, L_trap_spec (x := .lst ((single ms p).map rowsV)) rfl (pls_map (fun r => pl_rowsV r) _) (single_ok g.ok hpl)]
      simp only [bind_ok', ev_lst, evs_nil, List.length_nil]
      rw [if_pos (by simp [line])]
      simp [natsV]]
    rfl
/-- the plan of the first moves, by the law -/
theorem first_loop [K_law_v10 U] {ms : List (List Row)} {L : List Nat} {s0 s1 s2 s3 s5 s6 s7 s8 : Option PV} (g : Good ms) (hL : LotOk ms L) (hR : R[i]? = some (.lst [])) {Q : Fl × Sg → Store → Prop} {E : PV → Store → Prop}
    (hQ : ∀ R', (∀ j c, j < i → R[j]? = some c → R'[j]? = some c) → R'[i]? = some (.lst (natsV (ms.zipIdx.map fun q => firstL L q.2 q.1))) → Q (.nx, [s0, s1, s2, s3, some (movesV ms), s5, s6, s7, s8, some (.lst (natsV L)), some (.loc (i + 2)), none, none, none, none, none, none, none]) (dS d R')) :
    wp (exT (phi U (n + 12)) (.for (.tup (.cons (.x 11) (.cons (.x 12) .nil))) (.enum (.x 4)) (.cons (.app (.x 10) (.idx (.bin .add false (.lc false [16, 17] (.tup (.cons (.x 16) (.cons (.x 17) .nil))) (.enum (.x 12)) (.some (.and (.v (.cmp .isIn (.x 11) (.x 9))) (.v (.call 300 (.cons (.x 17) (.cons (.x 9) .nil)))))) (.x 16)) (.lst false (.cons (.ki 0) .nil))) (.ki 0))) .nil)) [s0, s1, s2, s3, some (movesV ms), s5, s6, s7, s8, some (.lst (natsV L)), some (.loc (i + 2)), none, none, none, none, none, none, none] (dS d R)) Q E := by
  have h8 := g.eight
  refine wp_forS ?_
  simp only [evi_enum, ev_x, getS_succ, getS_zero, ofO_some, bind_ok', movesV, items_tup, itV_some, enum_moves, wp_ok]
  refine wp_for (fun xs σ T => ∃ (qs : List (List Row × Nat)) (acc : List Nat) (R' : Store), xs = qs.map (fun q => .tup [.int q.2, rowsV q.1]) ∧ T = dS d R' ∧ R'[i]? = some (.lst (natsV acc)) ∧ (∀ j c, j < i → R[j]? = some c → R'[j]? = some c) ∧ (∀ q ∈ qs, q ∈ ms.zipIdx) ∧ acc.length + qs.length = ms.length ∧ acc ++ qs.map (fun q => firstL L q.2 q.1) = ms.zipIdx.map (fun q => firstL L q.2 q.1) ∧
    σ = [s0, s1, s2, s3, some (movesV ms), s5, s6, s7, s8, some (.lst (natsV L)), some (.loc (i + 2)), none, none, none, none, none, none, none]) ?_ ?_ ?_ ⟨ms.zipIdx, [], R, rfl, rfl, hR, fun _ _ _ h => h, fun q h => h, by simp, by simp, rfl⟩
  · rintro xs σ T _
    exact stand_lf _ _ (by simp only [lfs_cons, lf_tup, lfs_nil, Bool.and_true]; exact lfs_map (fun r => pl_lf (pl_rowsV r)) ms)
  · rintro x xs σ T ⟨qs, acc, R', hxs, rfl, hc, hpre, hq, hlen, he, rfl⟩
    cases qs with
    | nil => cases hxs
    | cons q qs =>
      simp only [List.map_cons, List.cons.injEq] at hxs
      obtain ⟨rfl, rfl⟩ := hxs
      obtain ⟨hq1, hq2⟩ := zipIdx_lt (hq q List.mem_cons_self)
      obtain ⟨e1, e2, e3⟩ := g.ok.each q.1 (List.mem_of_getElem? hq1)
      simp only [evg_tup, tupV_tup, unpV_some, evgs_cons, evgs_nil, evg_x, seqG_ok, setS_succ, setS_zero, wp_ok]
      refine wp_last ?_
      have hfl : (fitL L q.2 q.1).length ≤ 3 := by
        unfold fitL
        rw [List.length_map]
        refine Nat.le_trans (List.length_filter_le _ _) (by simp; exact e2)
      simp only [ex_app, ev_x, getS_succ, getS_zero, ofO_some, bind_ok', isLst_dS hc, lstG_true, ev_idx, ev_bin, ev_lst, evs_cons, evs_nil, ev_ki, List.length_cons, List.length_nil, wp_bind, wp_ok]
      rw [fit_ev (rs := q.1) (L := L) (i := q.2) (w := [rowsV q.1]) (by simp [rowsV]) e2 fun r hr => by
        obtain ⟨hr1, hr2⟩ := zipIdx_lt hr
        refine ⟨_, rfl, ?_, by simp⟩
        have hb := (e3 r.1 (List.mem_of_getElem? hr1)).1
        simp only [evt_and, evt_v, ev_cmp, ev_call, evs_cons, evs_nil, ev_x, wipeS_cons, wipeS_nil, setS_succ, setS_zero, getS_succ, getS_zero, ofO_some, bind_ok', in_nats, truth_bl, okT_some]
        cases decide (q.2 ∈ L) with
        | false => simp
        | true =>
          simp only [cond_true, Bool.true_and]
          rw [L_stays_spec (L := L) rfl (fun z hz => by rw [hb.len]; exact hL.lt z hz) (by have := hL.len; omega)]
          simp]
      simp only [wp_ok]
      rw [if_pos (by simp [line])]
      simp only [mkL_false, wp_ok]
      rw [add_lst (by simp [line]; omega)]
      obtain ⟨r, hr⟩ := head_ev (L := fitL L q.2 q.1)
      rw [hr]
      simp only [mkL_false, wp_ok, idx_l0]
      rw [app_dS hc (by simp [line]; simp at hlen; omega)]
      simp only [nxS_some, wp_ok]
      have hset : ∀ v, (∀ j c, j < i → R[j]? = some c → (R'.set i v)[j]? = some c) := fun v j c hj hjc => by
        rw [List.getElem?_set_ne (by omega)]
        exact hpre j c hj hjc
      refine ⟨qs, acc ++ [firstL L q.2 q.1], _, rfl, rfl, by rw [set_at hc]; simp [natsV, firstL], hset _, fun z hz => hq z (List.mem_cons_of_mem _ hz), by simp at hlen ⊢; omega, by simpa using he, ?_⟩
      cases s0 <;> cases s1 <;> cases s2 <;> cases s3 <;> cases s5 <;> cases s6 <;> cases s7 <;> cases s8 <;> rfl
  · rintro σ T ⟨qs, acc, R', hxs, rfl, hc, hpre, hq, hlen, he, rfl⟩
    cases qs with
    | cons q qs => cases hxs
    | nil =>
      simp only [List.map_nil, List.append_nil] at he
      subst he
      exact hQ R' hpre hc
end
end Sv
end

section
set_option linter.all false
set_option maxRecDepth 10000
set_option maxHeartbeats 4000000
/-! the law of houses, whole -/
namespace Sv
open PySem
section
variable {U : Nat → Option FD} {n m : Nat} {d : Dw} {R S : Store} {Φ : Phi} {i : Nat}
theorem wp.noex {α : Type} {r : Rs α} {Q : α → Store → Prop} {E : PV → Store → Prop} (h : wp r Q ff) : wp r Q E := wp.mono h (fun _ _ h => h)
theorem houseV_at0 {ms : List (List Row)} : attr (houseV ms) [(110, 0)] S = .ok (movesV ms) S := by simp [houseV, fpos, fAt]
theorem houseV_at1 {ms : List (List Row)} : attr (houseV ms) [(100, 1), (110, 1)] S = .ok (.int ms.length) S := by simp [houseV, fpos, fAt]
/-- the law's body, one turn -/
def turnB : Ts := match b_law_v10 with
  | .cons _ (.cons (.for _ _ b) _) => b
  | _ => .nil
def Env1' (sv : PV) (t : Int) : Sg := [some sv, some (.loc 1), some (.int t), none, none, none, none, none, none, none, none, none, none, none, none, none, none, none]
theorem turn_spec [K_law_v10 U] {sv : PV} {t : Int} (h : Dok (m + 10000) d) {Q : Fl × Sg → Store → Prop} (hQ : ∀ (d' : Dw) (R' : Store) (a3 a4 a5 a6 a7 a8 a9 a10 a11 a12 a13 a14 a15 a16 a17 : Option PV), Dok m d' → Q (.nx, [some sv, some (.loc 1), some (.int t), a3, a4, a5, a6, a7, a8, a9, a10, a11, a12, a13, a14, a15, a16, a17]) (dS d' R')) :
    wp (exs (phi U (n + 12)) turnB (Env1' sv t) (dS d R)) Q (wErr [] ff) := by
  unfold turnB b_law_v10 Env1'
  dsimp only
  -- many
  refine wp_cons ?_
  simp only [ex_set, ev_call, evs_cons, evs_nil, ev_x, ev_ite, evt_v, ev_cmp, ev_ki, getS_succ, getS_zero, ofO_some, bind_ok', eq_int, truth_bl, okT_some, evg_x, nxG_ok, wp_bind, wp_ok]
  refine wp.mono (Q := fun v T => ∃ b : Int, v = .int b ∧ 1 ≤ b ∧ T = dS d R) (E := ff) ?_ ?_
  · cases decide (t = 0) with
    | true => exact ⟨8, rfl, by decide, rfl⟩
    | false => exact ⟨4, rfl, by decide, rfl⟩
  rintro _ _ ⟨b, rfl, hb, rfl⟩
  refine wp.mono (some_many_spec (m := m + 9999) (h.mono (by omega)) hb) ?_
  rintro _ _ ⟨many, d1, rfl, hm1, _, hm8, rfl, hd1⟩
  simp only [wK_nx, setS_succ, setS_zero]
  -- moves
  refine wp_cons ?_
  simp only [ex_set, ev_call, evs_cons, evs_nil, ev_x, ev_cmp, ev_ki, getS_succ, getS_zero, ofO_some, bind_ok', evg_x, nxG_ok, wp_bind]
  refine wp.mono (take_spec (m := m + 9998) (hd1.mono (by omega)) (by decide) (by decide)) ?_
  rintro _ _ ⟨r, d2, rfl, _, _, rfl, hd2⟩
  simp only [eq_int, wp_ok]
  refine wp.mono (house_rows_spec (m := m + 6000) hm1 hm8 (hd2.mono (by omega))) ?_
  rintro _ _ ⟨ms, d3, rfl, rfl, hd3, hlen, g⟩
  subst hlen
  simp only [wK_nx, setS_succ, setS_zero]
  -- the house
  refine wp_cons ?_
  simp only [ex_set, ev_call, evs_cons, evs_nil, ev_x, getS_succ, getS_zero, ofO_some, bind_ok', evg_x, nxG_ok, wp_bind]
  refine wp.mono (scaled_spec (m := m + 5000) g (hd3.mono (by omega))) ?_
  rintro v _ ⟨ws, qs, d4, hv, hs, hmv, hsc, rfl, hd4⟩
  obtain ⟨hok, hred⟩ := hsc.good g
  rw [wp_ok, House_spec hv hs hmv hok, hred]
  simp only [wp_ok, wK_nx, setS_succ, setS_zero]
  -- it is kept, and equal
  refine wp_cons ?_
  simp only [ex_ifs, evt_or, evt_not, evt_v, ev_cmp, ev_att, ev_callk, evs_cons, evs_nil, ev_x, getS_succ, getS_zero, ofO_some, bind_ok', houseV_at0, houseV_at1, ne_ivn (ivn_movesV ms) (ivn_movesV ms), ne_int, decide_true, Bool.not_true, truth_bl, okT_some, cond_false, not_true_eq_false, ne_eq, decide_false, List.filterMap_cons, List.getElem?_cons_zero, List.filterMap_nil, House_self g]
  rw [house_eq]
  simp only [decide_true, bind_ok', truth_bl, okT_some, Bool.not_true, cond_false, wp_nil, wK_nx]
  -- another house
  obtain ⟨fr, la, hfl⟩ : ∃ fr la, ms = fr ++ [la] := by
    have h1 := g.one
    rcases List.eq_nil_or_concat ms with e | ⟨fr, la, e⟩
    · rw [e] at h1; simp at h1
    · exact ⟨fr, la, by simpa using e⟩
  have g3 := (g.each la (by rw [hfl]; simp)).2.1
  have hfr : ms.length = fr.length + 1 := by rw [hfl]; simp
  have go : Good (otherM fr la) := other_good (by rw [← hfl]; exact g)
  refine wp_cons ?_
  simp only [ex_set, wp_bind]
  rw [other_ev (fr := fr) (la := la) (by omega) g3 (by rw [← hfl]; rfl) (by rw [← hfr]; rfl)]
  simp only [evg_x, nxG_ok, wp_ok, wK_nx, setS_succ, setS_zero]
  refine wp_cons ?_
  have hne : ¬ ms = otherM fr la := by rw [hfl]; exact other_ne fr g3
  have hht : cmpop (phi U (n + 12)) .eq (houseV ms) (movesV ms) (dS d4 R) = .ok (.bl false) (dS d4 R) := eq_ins House_eq_tup
  simp only [ex_ifs, evt_or, evt_v, ev_cmp, ev_call, evs_cons, evs_nil, ev_x, getS_succ, getS_zero, ofO_some, bind_ok', House_self go]
  rw [house_eq]
  simp only [decide_eq_false hne, bind_ok', truth_bl, okT_some, cond_false, hht, wp_nil, wK_nx]
  -- a plan
  refine wp_cons ?_
  simp only [ex_set, ev_bi, wp_bind]
  refine plan_drawn (m := m + 4000) g (hd4.mono (by omega)) rfl rfl (fun _ => rfl) (fun _ => rfl) ?_
  intro p d5 hp hd5
  simp only [bi_tuple_lst, evg_x, nxG_ok, wp_ok, wK_nx, setS_succ, setS_zero]
  -- its walk
  have hwk : phi U (n + 12) 100 [.lst ((planRows ms p).map rowV)] (dS d5 R) = .ok (walkV ((planRows ms p).map lpR)) (dS d5 R) :=
    Walk_spec (v := .lst ((planRows ms p).map rowV)) (pls_map (fun r => pl_rowV r) _) rfl (by rw [planRows_len hp]; exact g.one) (by rw [planRows_len hp]; exact g.eight) (fun r hr => (planRows_ok g.ok hp r hr).1) (fun r hr => (planRows_ok g.ok hp r hr).2)
  refine wp_cons ?_
  simp only [ex_set, ev_call, ev_bl, evs_cons, evs_nil, ev_x, getS_succ, getS_zero, ofO_some, bind_ok', wp_bind]
  rw [L_rows_of_spec (x := .non) hp g.eight]
  simp only [wp_ok, wp_bind]
  rw [bl_list_of (xs := (planRows ms p).map rowV) rfl]
  simp only [mkL_false, wp_ok, hwk, evg_x, nxG_ok, wK_nx, setS_succ, setS_zero]
  refine wp_cons ?_
  simp only [ex_ifs, evt_or, evt_v, ev_cmp, ev_call, ev_callk, evs_cons, evs_nil, ev_x, getS_succ, getS_zero, ofO_some, bind_ok', walk_of_spec g.ok hp, walk_ne, decide_true, Bool.not_true, truth_bl, okT_some, cond_false, List.filterMap_cons, List.getElem?_cons_zero, List.getElem?_cons_succ, List.filterMap_nil, wp_ok, wp_nil, wK_nx]
  -- the trap
  refine wp_cons ?_
  simp only [ex_set, ev_tup, evs_cons, evs_nil, ev_call, ev_lst, ev_x, getS_succ, getS_zero, ofO_some, bind_ok', wp_bind]
  rw [L_trap_spec (x := movesV ms) rfl (pl_movesV ms) g.ok]
  simp only [wp_ok, List.length_nil, List.length_cons]
  rw [if_pos (by simp [line])]
  simp only [mkL_true, dS_len, dS_app, wp_ok]
  rw [if_pos (by simp [line])]
  simp only [wp_ok, evg_tup, tupV_tup, unpV_some, evgs_cons, evgs_nil, evg_x, seqG_ok, nxG_ok, wK_nx, setS_succ, setS_zero]
  have hL : LotOk ms (trapL ms) := (LotOk.all ms).it
  refine wp_cons (first_loop (i := R.length) g hL new_at ?_)
  intro R1 _ hR1
  simp only [wK_nx]
  -- what is due
  refine wp_cons ?_
  refine wp.mono (Q := fun z T => z = (.nx, [some sv, some (.loc 1), some (.int t), some (.int ms.length), some (movesV ms), some (houseV ms), some (movesV (otherM fr la)), some (.tup (natsV p)), some (trapV ms), some (.lst (natsV (trapL ms))), some (.loc (R.length + 2)), none, none, none, none, none, none, none]) ∧ T = dS d5 R1) (E := ff) ?_ ?_
  · simp only [ex_set, ev_ite, evt_v, ev_cmp, ev_x, ev_lst, evs_nil, getS_succ, getS_zero, ofO_some, bind_ok', wp_bind, List.length_nil]
    rw [if_pos (by simp [line])]
    simp only [mkL_false, bind_ok', ne_nil_lst, truth_bl, okT_some, wp_ok]
    unfold trapV
    cases ht : trapL ms with
    | nil =>
      simp only [natsV, List.map_nil, List.isEmpty_nil, Bool.not_true, cond_false, ev_kn, wp_ok, evg_x, nxG_ok, setS_succ, setS_zero]
      exact ⟨by trivial, by trivial⟩
    | cons q L =>
      rw [ht] at hR1
      simp only [show (natsV (q :: L)).isEmpty = false from rfl, Bool.not_false, cond_true, ev_tup, evs_cons, evs_nil, ev_bi, ev_x, getS_succ, getS_zero, ofO_some, bind_ok', bi_tuple_lst]
      rw [bi_tuple_of (items_dS hR1)]
      simp only [bind_ok', List.length_cons, List.length_nil]
      rw [if_pos (by simp [line])]
      simp only [wp_ok, evg_x, nxG_ok, setS_succ, setS_zero]
      exact ⟨by trivial, by trivial⟩
  rintro _ _ ⟨rfl, rfl⟩
  simp only [wK_nx]
  refine wp_cons ?_
  simp only [ex_ifs, evt_or, evt_v, ev_cmp, ev_call, ev_callk, evs_cons, evs_nil, ev_x, getS_succ, getS_zero, ofO_some, bind_ok', trap_spec g.ok, trapV_ne, truth_bl, okT_some, cond_false, List.filterMap_cons, List.getElem?_cons_zero, List.filterMap_nil, wp_ok, wp_nil, wK_nx]
  -- the plans' traps
  refine wp_cons ?_
  refine wp.mono (Q := fun z T => ∃ a13, z = (.nx, [some sv, some (.loc 1), some (.int t), some (.int ms.length), some (movesV ms), some (houseV ms), some (movesV (otherM fr la)), some (.tup (natsV p)), some (trapV ms), some (.lst (natsV (trapL ms))), some (.loc (R.length + 2)), none, none, a13, none, none, none, none]) ∧ T = dS d5 R1) (E := ff) ?_ ?_
  · simp only [ex_ifs, evt_v, ev_cmp, ev_x, ev_ki, getS_succ, getS_zero, ofO_some, bind_ok', lt_int, truth_bl, okT_some, wp_bind, wp_ok]
    by_cases h5 : ms.length < 5
    · rw [show decide ((ms.length : Int) < 5) = true from decide_eq_true (by omega), cond_true]
      refine wp_cons ?_
      obtain ⟨l, hl, he⟩ := shut_ev (U := U) (n := n) (S := dS d5 R1) (σ := [some sv, some (.loc 1), some (.int t), some (.int ms.length), some (movesV ms), some (houseV ms), some (movesV (otherM fr la)), some (.tup (natsV p)), some (trapV ms), some (.lst (natsV (trapL ms))), some (.loc (R.length + 2)), none, none, none, none, none, none, none]) g (by omega) rfl (fun _ => rfl) (fun _ => rfl) (fun _ _ => rfl)
      rw [ex_set, he]
      simp only [bind_ok', evg_x, nxG_ok, wp_ok, wK_nx, setS_succ, setS_zero]
      refine wp_last ?_
      simp only [ex_ifs, evt_v, ev_cmp, ev_isn, ev_lst, evs_nil, ev_x, getS_succ, getS_zero, ofO_some, bind_ok', List.length_nil, wp_bind]
      rw [if_pos (by simp [line])]
      simp only [mkL_false, bind_ok', ne_nil_lst, ne_bl, trapV_non, hl, truth_bl, okT_some, wp_ok]
      have : ((!(trapL ms).isEmpty) != ((trapL ms).isEmpty != true)) = false := by cases (trapL ms).isEmpty <;> rfl
      rw [this]
      simp only [cond_false, wp_nil]
      exact ⟨_, rfl, by trivial⟩
    · rw [show decide ((ms.length : Int) < 5) = false from decide_eq_false (by omega), cond_false]
      exact ⟨none, rfl, rfl⟩
  rintro _ _ ⟨a13, rfl, rfl⟩
  simp only [wK_nx]
  -- refusals: no house
  refine wp_cons ?_
  simp only [ex_set, ev_lst, ev_tup, evs_cons, evs_nil, ev_ki, ev_call, ev_clo, ev_x, getS_succ, getS_zero, ofO_some, bind_ok', wp_bind, wp_ok]
  refine wp.noex (bad_house_spec (m := m + 3000) g.eight (hd5.mono (by omega)) ?_)
  intro bh d6 hbh1 hbh2 hd6
  simp only [wp_ok, List.length_cons, List.length_nil]
  rw [if_pos (by simp [line])]
  simp only [wp_ok]
  rw [if_pos (by simp [line])]
  simp only [mkL_true, dS_len, dS_app, wp_ok, evg_x, nxG_ok, wK_nx, setS_succ, setS_zero]
  refine wp_cons ?_
  simp only [ex_ifs, evt_not, evt_v, ev_call, evs_cons, evs_nil, ev_clo, ev_lst, ev_x, getS_succ, getS_zero, ofO_some, bind_ok', wp_bind, List.length_cons, List.length_nil]
  rw [if_pos (by simp [line])]
  simp only [mkL_false, wp_ok]
  refine wp.noex (due_house (n := n + 4) (i := R1.length) (m := m + 2900) hbh1 hbh2 new_at (hd6.mono (by omega)) ?_)
  intro d7 hd7
  simp only [truth_bl, okT_some, wp_ok, Bool.not_true, cond_false, wp_nil, wK_nx]
  -- no plan
  refine wp_cons ?_
  have hc1 : (R1 ++ [Cl.lst [badV (0, bh, 540)]])[R1.length]? = some (.lst [badV (0, bh, 540)]) := new_at
  simp only [ex_app, ev_x, getS_succ, getS_zero, ofO_some, bind_ok', isLst_dS hc1, lstG_true, ev_tup, evs_cons, evs_nil, ev_ki, ev_call, ev_clo, wp_bind]
  refine wp.noex (bad_plan_spec (m := m + 2800) g.one g.eight (fun rs hrs => (g.each rs hrs).2.1) hp.len (hd7.mono (by omega)) ?_)
  intro bp d8 hbp1 hbp2 hd8
  simp only [wp_ok, List.length_cons, List.length_nil]
  rw [if_pos (by simp [line])]
  simp only [wp_ok]
  rw [app_dS hc1 (by simp [line])]
  simp only [nxS_some, wp_ok, wK_nx, set_last, List.cons_append, List.nil_append]
  refine wp_cons ?_
  simp only [ex_ifs, evt_not, evt_v, ev_call, evs_cons, evs_nil, ev_clo, ev_lst, ev_x, getS_succ, getS_zero, ofO_some, bind_ok', wp_bind, List.length_cons, List.length_nil]
  rw [if_pos (by simp [line])]
  simp only [mkL_false, wp_ok]
  refine wp.noex (due_plan (n := n + 4) (i := R1.length) (m := m + 2700) (v := bh) (w := bp) g.eight hbh1 hbh2 hbp1 hbp2 new_at (hd8.mono (by omega)) ?_)
  intro d9 hd9
  simp only [truth_bl, okT_some, wp_ok, Bool.not_true, cond_false, wp_nil, wK_nx]
  -- no moves
  refine wp_cons ?_
  simp only [ex_set, ev_lst, ev_tup, evs_cons, evs_nil, ev_ki, ev_call, ev_clo, ev_x, getS_succ, getS_zero, ofO_some, bind_ok', wp_bind, wp_ok]
  refine wp.noex (bad_moves_spec (m := m + 2600) g (hd9.mono (by omega)) ?_)
  intro bm d10 hbm1 hbm2 hd10
  simp only [wp_ok, List.length_cons, List.length_nil]
  rw [if_pos (by simp [line])]
  simp only [wp_ok]
  rw [if_pos (by simp [line])]
  simp only [mkL_true, dS_len, dS_app, wp_ok, evg_x, nxG_ok, wK_nx, setS_succ, setS_zero]
  refine wp_last ?_
  simp only [ex_ifs, evt_not, evt_v, ev_call, evs_cons, evs_nil, ev_clo, ev_lst, ev_x, getS_succ, getS_zero, ofO_some, bind_ok', wp_bind, List.length_cons, List.length_nil]
  rw [if_pos (by simp [line])]
  simp only [mkL_false, wp_ok]
  refine wp.noex (due_moves (n := n + 4) (i := (R1 ++ [Cl.lst [badV (0, bh, 540), badV (1, bp, 538)]]).length) (m := m) hbm1 hbm2 new_at (hd10.mono (by omega)) ?_)
  intro d11 hd11
  simp only [truth_bl, okT_some, wp_ok, Bool.not_true, cond_false, wp_nil]
  exact hQ _ _ _ _ _ _ _ _ _ _ _ _ _ _ _ _ _ hd11
theorem plain81 [K_law_v10 U] {ns : List Int} (hl : ns.length ≤ 63) (hb : ∀ z ∈ ns, z.natAbs.log2 < 1500000) : ∃ S', phi U (n + 13) 383 [.fz (ns.map .int)] [] = .ok (.bl true) S' := by
  have key : wp (phi U (n + 13) 383 [.fz (ns.map .int)] []) (fun v _ => v = .bl true) ff := by
    refine wp_fn K_law_v10.h383 rfl ?_
    unfold b_law_v10
    refine wp_cons ?_
    simp only [startS, List.map_cons, List.map_nil, List.length_cons, List.length_nil, List.replicate, List.cons_append, List.nil_append, Nat.reduceAdd, Nat.reduceSub, ex_set, ev_call, evs_cons, evs_nil, ev_x, getS_succ, getS_zero, ofO_some, bind_ok', evg_x, nxG_ok, wp_bind]
    refine wp.mono (begun_spec (U := U) (n := n + 11) hl hb) ?_
    rintro _ _ ⟨d, rfl, rfl, hd⟩
    simp only [wK_nx, setS_succ, setS_zero]
    refine wp_cons (wp_forS ?_)
    simp only [evi_range1, ev_ki, bind_ok']
    rw [rng1V_int (by decide)]
    simp only [wp_ok]
    refine wp_for (fun xs σ T => ∃ (d : Dw) (R : Store), T = dS d R ∧ Dok (10000 * xs.length) d ∧ σ = [some (.fz (ns.map .int)), some (.loc 1), none, none, none, none, none, none, none, none, none, none, none, none, none, none, none, none] ∧ ∀ x ∈ xs, ∃ t : Int, x = .int t) ?_ ?_ ?_ ?_
    · intro _ _ _ _
      exact stand_nil _ _
    · rintro x xs σ T ⟨d, R, rfl, hd, rfl, hx⟩
      obtain ⟨t, rfl⟩ := hx x List.mem_cons_self
      simp only [evg_x, setS_succ, setS_zero, wp_ok]
      refine wp.mono (turn_spec (n := n) (sv := .fz (ns.map .int)) (t := t) (m := 10000 * xs.length) (hd.mono (by simp; omega)) (Q := fun z T => ∃ (d' : Dw) (R' : Store), Dok (10000 * xs.length) d' ∧ T = dS d' R' ∧ z.1 = .nx ∧ mask [some (.fz (ns.map .int)), some (.loc 1), none, none, none, none, none, none, none, none, none, none, none, none, none, none, none, none] z.2 = [some (.fz (ns.map .int)), some (.loc 1), none, none, none, none, none, none, none, none, none, none, none, none, none, none, none, none]) ?_) ?_ ?_
      · intro d' R' _ _ _ _ _ _ _ _ _ _ _ _ _ _ _ hd'
        exact ⟨d', R', hd', rfl, rfl, rfl⟩
      · rintro ⟨f, σ'⟩ T ⟨d', R', hd', rfl, hf, hm⟩
        dsimp only at hf hm
        subst hf
        dsimp only
        exact ⟨d', R', rfl, hd', hm, fun y hy => hx y (List.mem_cons_of_mem _ hy)⟩
      · intro e T h
        exact h.2.2.elim
    · rintro σ T ⟨d, R, rfl, hd, rfl, hx⟩
      simp only [wK_nx]
      refine wp_last ?_
      simp only [ex_ret, ev_kb, bind_ok', wp_ok, wOut]
      rw [leave_of (v := .bl true) (w := .bl true) (n := ([] : Store).length) ⟨Nat.zero_le _, fun i c h => absurd h (by simp)⟩ (frz_lf rfl)]
      rfl
    · refine ⟨d, [], rfl, hd.mono (by decide), rfl, fun x hx => ?_⟩
      simp [rng] at hx
      obtain ⟨k, _, rfl⟩ := hx
      exact ⟨_, rfl⟩
  obtain ⟨v, S', e, rfl⟩ := key.ok
  exact ⟨S', e⟩
end
end Sv
end

set_option Elab.async false
set_option linter.all false
set_option maxRecDepth 100000
set_option maxHeartbeats 0
namespace Sv.k81
open PySem PySem.Spec PyProof.Rows L2
def top (i : Nat) : Stmt := PySem.Challenge.pw_stoppedso_k81_houses_and_where_one_may_s.main.body.getD i (.Pass ⟨0, 0, 0, 0⟩)
def clsSt (s : Stmt) (j : Nat) : Stmt := match s with
  | .ClassDef (body := b) .. => b.getD j (.Pass ⟨0, 0, 0, 0⟩)
  | s => s
def bodyAt (l : List Stmt) (i : Nat) : Stmt := l.getD i (.Pass ⟨0, 0, 0, 0⟩)
def stE : Stmt → Expr
  | .Assign _ v _ => v
  | .AugAssign _ _ v _ => v
  | .Expr v _ => v
  | .Return (some v) _ => v
  | .If t _ _ _ => t
  | .While t _ _ _ => t
  | .For _ t _ _ _ => t
  | _ => .Name "" ⟨0, 0, 0, 0⟩
def stS (s : Stmt) (b : Bool) (i : Nat) : Stmt := match s, b with
  | .If _ x _ _, true => bodyAt x i
  | .If _ _ x _, false => bodyAt x i
  | .While _ x _ _, _ => bodyAt x i
  | .For _ _ x _ _, _ => bodyAt x i
  | s, _ => s
def exL (l : List Expr) (i : Nat) : Expr := l.getD i (.Name "" ⟨0, 0, 0, 0⟩)
def exC (e : Expr) (i : Nat) : Expr := match e with
  | .Call f as ks _ => exL (f :: (as ++ ks.map (·.value))) i
  | .Tuple es _ _ => exL es i
  | .List es _ => exL es i
  | .BoolOp _ es _ => exL es i
  | .Compare l _ es _ => exL (l :: es) i
  | .IfExp a b c _ => exL [a, b, c] i
  | .BinOp a _ b _ => exL [a, b] i
  | .UnaryOp _ a _ => a
  | .Subscript a b _ => exL [a, b] i
  | .Attribute a _ _ => a
  | .ListComp a gs _ _ => exL (a :: gs.map (·.iter)) i
  | .Starred a _ => a
  | e => e
def lamD (q : Str) (e : Expr) : LamD := match e with
  | .Lambda a b s _ => ⟨q ++ (".<locals>." : Str) ++ ("<lambda>" : Str), a, b, s⟩
  | _ => ⟨q, ⟨[], [], none, [], [], none, []⟩, e, ⟨.function, [], false, false, []⟩⟩
def dd_is_number : He.DefD := ⟨("is_number", none), "is_number", "is_number", defArgs (top 7), defBody (top 7), defScope (top 7), [], []⟩
def dd_is_between : He.DefD := ⟨("is_between", none), "is_between", "is_between", defArgs (top 8), defBody (top 8), defScope (top 8), [], []⟩
def dd_is_list : He.DefD := ⟨("is_list", none), "is_list", "is_list", defArgs (top 9), defBody (top 9), defScope (top 9), [], []⟩
def dd_is_row : He.DefD := ⟨("is_row", none), "is_row", "is_row", defArgs (top 10), defBody (top 10), defScope (top 10), [], []⟩
def dd_is_count_row : He.DefD := ⟨("is_count_row", none), "is_count_row", "is_count_row", defArgs (top 11), defBody (top 11), defScope (top 11), [], []⟩
def dd_divisor_of : He.DefD := ⟨("divisor_of", none), "divisor_of", "divisor_of", defArgs (top 12), defBody (top 12), defScope (top 12), [], []⟩
def dd_least_pair : He.DefD := ⟨("least_pair", none), "least_pair", "least_pair", defArgs (top 13), defBody (top 13), defScope (top 13), [], []⟩
def dd_is_index : He.DefD := ⟨("is_index", none), "is_index", "is_index", defArgs (top 14), defBody (top 14), defScope (top 14), [], []⟩
def dd_is_chance_row : He.DefD := ⟨("is_chance_row", none), "is_chance_row", "is_chance_row", defArgs (top 17), defBody (top 17), defScope (top 17), [], []⟩
def dd_Walk___init__ : He.DefD := ⟨("Walk", some "__init__"), "__init__", "Walk.__init__", defArgs (clsSt (top 18) 0), defBody (clsSt (top 18) 0), defScope (clsSt (top 18) 0), [], []⟩
def dd_Walk___eq__ : He.DefD := ⟨("Walk", some "__eq__"), "__eq__", "Walk.__eq__", defArgs (clsSt (top 18) 1), defBody (clsSt (top 18) 1), defScope (clsSt (top 18) 1), [], []⟩
def dd_are_moves : He.DefD := ⟨("are_moves", none), "are_moves", "are_moves", defArgs (top 20), defBody (top 20), defScope (top 20), [], []⟩
def dd_House___init__ : He.DefD := ⟨("House", some "__init__"), "__init__", "House.__init__", defArgs (clsSt (top 21) 0), defBody (clsSt (top 21) 0), defScope (clsSt (top 21) 0), [], []⟩
def dd_House___eq__ : He.DefD := ⟨("House", some "__eq__"), "__eq__", "House.__eq__", defArgs (clsSt (top 21) 1), defBody (clsSt (top 21) 1), defScope (clsSt (top 21) 1), [], []⟩
def dd_need_house : He.DefD := ⟨("need_house", none), "need_house", "need_house", defArgs (top 22), defBody (top 22), defScope (top 22), [], []⟩
def dd_is_plan : He.DefD := ⟨("is_plan", none), "is_plan", "is_plan", defArgs (top 23), defBody (top 23), defScope (top 23), [], []⟩
def dd_need_plan : He.DefD := ⟨("need_plan", none), "need_plan", "need_plan", defArgs (top 24), defBody (top 24), defScope (top 24), [], []⟩
def dd_rows_of : He.DefD := ⟨("rows_of", none), "rows_of", "rows_of", defArgs (top 25), defBody (top 25), defScope (top 25), [], []⟩
def dd_stays_in : He.DefD := ⟨("stays_in", none), "stays_in", "stays_in", defArgs (top 26), defBody (top 26), defScope (top 26), [], []⟩
def dd_staying_lot : He.DefD := ⟨("staying_lot", none), "staying_lot", "staying_lot", defArgs (top 27), defBody (top 27), defScope (top 27), [], []⟩
def dd_walk_of : He.DefD := ⟨("walk_of", none), "walk_of", "walk_of", defArgs (top 28), defBody (top 28), defScope (top 28), [], []⟩
def dd_trap : He.DefD := ⟨("trap", none), "trap", "trap", defArgs (top 29), defBody (top 29), defScope (top 29), [], []⟩
def dd__law_begun : He.DefD := ⟨("_law_begun", none), "_law_begun", "_law_begun", defArgs (top 31), defBody (top 31), defScope (top 31), [], []⟩
def dd__law_blend : He.DefD := ⟨("_law_blend", none), "_law_blend", "_law_blend", defArgs (top 32), defBody (top 32), defScope (top 32), [], []⟩
def dd__law_take : He.DefD := ⟨("_law_take", none), "_law_take", "_law_take", defArgs (top 33), defBody (top 33), defScope (top 33), [], []⟩
def dd__law_pick : He.DefD := ⟨("_law_pick", none), "_law_pick", "_law_pick", defArgs (top 34), defBody (top 34), defScope (top 34), [], []⟩
def dd__law_caught : He.DefD := ⟨("_law_caught", none), "_law_caught", "_law_caught", defArgs (top 35), defBody (top 35), defScope (top 35), [], []⟩
def dd__law_divisor : He.DefD := ⟨("_law_divisor", none), "_law_divisor", "_law_divisor", defArgs (top 36), defBody (top 36), defScope (top 36), [], []⟩
def dd__law_pair : He.DefD := ⟨("_law_pair", none), "_law_pair", "_law_pair", defArgs (top 37), defBody (top 37), defScope (top 37), [], []⟩
def dd__law_some_many : He.DefD := ⟨("_law_some_many", none), "_law_some_many", "_law_some_many", defArgs (top 38), defBody (top 38), defScope (top 38), [], []⟩
def dd__law_first_due : He.DefD := ⟨("_law_first_due", none), "_law_first_due", "_law_first_due", defArgs (top 39), defBody (top 39), defScope (top 39), [], []⟩
def dd__law_house_rows : He.DefD := ⟨("_law_house_rows", none), "_law_house_rows", "_law_house_rows", defArgs (top 40), defBody (top 40), defScope (top 40), [], []⟩
def dd__law_plans : He.DefD := ⟨("_law_plans", none), "_law_plans", "_law_plans", defArgs (top 41), defBody (top 41), defScope (top 41), [], []⟩
def dd__law_rows_of : He.DefD := ⟨("_law_rows_of", none), "_law_rows_of", "_law_rows_of", defArgs (top 42), defBody (top 42), defScope (top 42), [], []⟩
def dd__law_stays : He.DefD := ⟨("_law_stays", none), "_law_stays", "_law_stays", defArgs (top 43), defBody (top 43), defScope (top 43), [], []⟩
def dd__law_trap : He.DefD := ⟨("_law_trap", none), "_law_trap", "_law_trap", defArgs (top 44), defBody (top 44), defScope (top 44), [], []⟩
def dd__law_bad_house : He.DefD := ⟨("_law_bad_house", none), "_law_bad_house", "_law_bad_house", defArgs (top 45), defBody (top 45), defScope (top 45), [], []⟩
def dd__law_bad_plan : He.DefD := ⟨("_law_bad_plan", none), "_law_bad_plan", "_law_bad_plan", defArgs (top 46), defBody (top 46), defScope (top 46), [], []⟩
def dd__law_bad_moves : He.DefD := ⟨("_law_bad_moves", none), "_law_bad_moves", "_law_bad_moves", defArgs (top 47), defBody (top 47), defScope (top 47), [], []⟩
def dd__law_scaled_moves : He.DefD := ⟨("_law_scaled_moves", none), "_law_scaled_moves", "_law_scaled_moves", defArgs (top 48), defBody (top 48), defScope (top 48), [], []⟩
def dd_law : He.DefD := ⟨("law", none), "law", "law", defArgs (top 49), defBody (top 49), defScope (top 49), [], []⟩
def lm_540 : LamD := lamD "law" (exC (exC (stE (stS (bodyAt (defBody (top 49)) 1) true 14)) 0) 2)
def lm_539 : LamD := lamD "law" (exC (exC (stE (stS (bodyAt (defBody (top 49)) 1) true 15)) 0) 2)
def lm_538 : LamD := lamD "law" (exC (exC (stE (stS (bodyAt (defBody (top 49)) 1) true 16)) 1) 2)
def lm_537 : LamD := lamD "law" (exC (exC (stE (stS (bodyAt (defBody (top 49)) 1) true 17)) 0) 2)
def lm_536 : LamD := lamD "law" (exC (exC (stE (stS (bodyAt (defBody (top 49)) 1) true 18)) 0) 2)
def lm_535 : LamD := lamD "law" (exC (exC (stE (stS (bodyAt (defBody (top 49)) 1) true 19)) 0) 2)
def tabs : Tabs := ⟨[(100, "Walk"), (110, "House")], [(0, "StopError"), (3, "BadHouse"), (2, "BadMoves"), (4, "BadPlan"), (1, "BadRows")],
  fun C => if C = 100 then ["rows", "many"] else if C = 110 then ["moves", "many"] else [],
  [(540, lm_540), (539, lm_539), (538, lm_538), (537, lm_537), (536, lm_536), (535, lm_535)]⟩
def gl0 : List (Str × G) := [("is_number", .fn 201 []), ("is_between", .fn 202 []), ("is_list", .fn 203 []), ("is_row", .fn 204 []), ("is_count_row", .fn 205 []), ("divisor_of", .fn 206 []), ("least_pair", .fn 208 []), ("is_index", .fn 210 []), ("is_chance_row", .fn 223 []), ("are_moves", .fn 366 []), ("need_house", .fn 367 []), ("is_plan", .fn 368 []), ("need_plan", .fn 369 []), ("rows_of", .fn 370 []), ("stays_in", .fn 371 []), ("staying_lot", .fn 372 []), ("walk_of", .fn 373 [⟨0, ["plan", "house"], [1, 0]⟩]), ("trap", .fn 374 [⟨0, ["house"], [0]⟩]), ("_law_begun", .fn 244 []), ("_law_blend", .fn 245 [])]
def gl1 : List (Str × G) := [("_law_take", .fn 246 []), ("_law_pick", .fn 247 []), ("_law_caught", .caught), ("_law_divisor", .fn 250 []), ("_law_pair", .fn 257 []), ("_law_some_many", .fn 258 []), ("_law_first_due", .fn 276 []), ("_law_house_rows", .fn 375 []), ("_law_plans", .fn 376 []), ("_law_rows_of", .fn 377 []), ("_law_stays", .fn 300 []), ("_law_trap", .fn 378 []), ("_law_bad_house", .fn 379 []), ("_law_bad_plan", .fn 380 []), ("_law_bad_moves", .fn 381 []), ("_law_scaled_moves", .fn 382 []), ("law", .fn 383 []), ("Walk", .cls 100 []), ("House", .cls 110 [⟨0, ["moves"], [0]⟩]), ("StopError", .exc 0)]
def gl2 : List (Str × G) := [("BadHouse", .exc 3), ("BadMoves", .exc 2), ("BadPlan", .exc 4), ("BadRows", .exc 1), ("MOST_PLACES", .int 8), ("abs", .bi), ("all", .bi), ("any", .bi), ("bool", .bi), ("enumerate", .bi), ("int", .bi), ("isinstance", .bi), ("len", .bi), ("list", .bi), ("range", .bi), ("sum", .bi), ("tuple", .bi), ("zip", .bi)]
def gl : List (Str × G) := gl0 ++ gl1 ++ gl2
def tf : List (He.Defn × Str) := [(("_law_first_due", none), "_law_first_due"), (("law", none), "law")]
def ut0 : List (Nat × FD) := [(201, d_is_number), (202, d_is_between), (203, d_is_list), (204, d_is_row), (205, d_is_count_row), (206, d_divisor_of), (208, d_least_pair), (210, d_is_index), (223, d_is_chance_row), (101, d_Walk___eq__), (366, d_are_moves), (111, d_House___eq__), (367, d_need_house), (368, d_is_plan), (369, d_need_plan), (370, d_rows_of), (371, d_stays_in), (372, d_staying_lot), (373, d_walk_of), (374, d_trap)]
def ut1 : List (Nat × FD) := [(244, d_L_begun), (245, d_L_blend), (246, d_L_take), (247, d_L_pick), (250, d_L_divisor), (257, d_L_pair), (258, d_L_some_many), (276, d_L_first_due), (375, d_L_house_rows), (376, d_L_plans), (377, d_L_rows_of), (300, d_L_stays), (378, d_L_trap), (379, d_L_bad_house), (380, d_L_bad_plan), (381, d_L_bad_moves), (382, d_L_scaled_moves), (383, d_law_v10), (100, d_Walk___init__), (110, d_House___init__)]
def ut2 : List (Nat × FD) := [(540, d_lam540), (539, d_lam539), (538, d_lam538), (537, d_lam537), (536, d_lam536), (535, d_lam535)]
def ut : List (Nat × FD) := ut0 ++ ut1 ++ ut2
def U (n : Nat) : Option FD := ut.lookup n
instance : K_law_v10 U := { h100 := rfl, h101 := rfl, h110 := rfl, h111 := rfl, h201 := rfl, h202 := rfl, h203 := rfl, h204 := rfl, h205 := rfl, h206 := rfl, h208 := rfl, h210 := rfl, h223 := rfl, h244 := rfl, h245 := rfl, h246 := rfl, h247 := rfl, h250 := rfl, h257 := rfl, h258 := rfl, h276 := rfl, h300 := rfl, h366 := rfl, h367 := rfl, h368 := rfl, h369 := rfl, h370 := rfl, h371 := rfl, h372 := rfl, h373 := rfl, h374 := rfl, h375 := rfl, h376 := rfl, h377 := rfl, h378 := rfl, h379 := rfl, h380 := rfl, h381 := rfl, h382 := rfl, h383 := rfl, h535 := rfl, h536 := rfl, h537 := rfl, h538 := rfl, h539 := rfl, h540 := rfl }
def r_is_number : FRow tabs gl tf U where
  d := dd_is_number
  num := 201
  fuel := 300
  N := ["thing"]
  ps := ["thing"]
  b := b_is_number
  kws := []
  lq := false
  kp := false
  hd := ⟨rfl, rfl⟩
  hlq := fun h => nomatch h
  hsc := by decide +kernel
  hpl := by decide
  hck := by decide +kernel
  hU := rfl
  hb := ⟨fun kV doc pm an cdv ct us hl => match us, hl with | [_], _ => rfl, fun q hq => nomatch hq⟩
def r_is_between : FRow tabs gl tf U where
  d := dd_is_between
  num := 202
  fuel := 300
  N := ["thing", "low", "high"]
  ps := ["thing", "low", "high"]
  b := b_is_between
  kws := []
  lq := false
  kp := false
  hd := ⟨rfl, rfl⟩
  hlq := fun h => nomatch h
  hsc := by decide +kernel
  hpl := by decide
  hck := by decide +kernel
  hU := rfl
  hb := ⟨fun kV doc pm an cdv ct us hl => match us, hl with | [_, _, _], _ => rfl, fun q hq => nomatch hq⟩
def r_is_list : FRow tabs gl tf U where
  d := dd_is_list
  num := 203
  fuel := 300
  N := ["thing"]
  ps := ["thing"]
  b := b_is_list
  kws := []
  lq := false
  kp := false
  hd := ⟨rfl, rfl⟩
  hlq := fun h => nomatch h
  hsc := by decide +kernel
  hpl := by decide
  hck := by decide +kernel
  hU := rfl
  hb := ⟨fun kV doc pm an cdv ct us hl => match us, hl with | [_], _ => rfl, fun q hq => nomatch hq⟩
def r_is_row : FRow tabs gl tf U where
  d := dd_is_row
  num := 204
  fuel := 300
  N := ["thing", "many", "item"]
  ps := ["thing", "many"]
  b := b_is_row
  kws := []
  lq := false
  kp := false
  hd := ⟨rfl, rfl⟩
  hlq := fun h => nomatch h
  hsc := by decide +kernel
  hpl := by decide
  hck := by decide +kernel
  hU := rfl
  hb := ⟨fun kV doc pm an cdv ct us hl => match us, hl with | [_, _], _ => rfl, fun q hq => nomatch hq⟩
def r_is_count_row : FRow tabs gl tf U where
  d := dd_is_count_row
  num := 205
  fuel := 300
  N := ["thing", "many", "item"]
  ps := ["thing", "many"]
  b := b_is_count_row
  kws := []
  lq := false
  kp := false
  hd := ⟨rfl, rfl⟩
  hlq := fun h => nomatch h
  hsc := by decide +kernel
  hpl := by decide
  hck := by decide +kernel
  hU := rfl
  hb := ⟨fun kV doc pm an cdv ct us hl => match us, hl with | [_, _], _ => rfl, fun q hq => nomatch hq⟩
def r_divisor_of : FRow tabs gl tf U where
  d := dd_divisor_of
  num := 206
  fuel := 300
  N := ["numbers", "found", "number", "here", "there"]
  ps := ["numbers"]
  b := b_divisor_of
  kws := []
  lq := false
  kp := false
  hd := ⟨rfl, rfl⟩
  hlq := fun h => nomatch h
  hsc := by decide +kernel
  hpl := by decide
  hck := by decide +kernel
  hU := rfl
  hb := ⟨fun kV doc pm an cdv ct us hl => match us, hl with | [_], _ => rfl, fun q hq => nomatch hq⟩
def r_least_pair : FRow tabs gl tf U where
  d := dd_least_pair
  num := 208
  fuel := 300
  N := ["scale", "numbers", "found", "item"]
  ps := ["scale", "numbers"]
  b := b_least_pair
  kws := []
  lq := false
  kp := false
  hd := ⟨rfl, rfl⟩
  hlq := fun h => nomatch h
  hsc := by decide +kernel
  hpl := by decide
  hck := by decide +kernel
  hU := rfl
  hb := ⟨fun kV doc pm an cdv ct us hl => match us, hl with | [_, _], _ => rfl, fun q hq => nomatch hq⟩
def r_is_index : FRow tabs gl tf U where
  d := dd_is_index
  num := 210
  fuel := 300
  N := ["thing", "many"]
  ps := ["thing", "many"]
  b := b_is_index
  kws := []
  lq := false
  kp := false
  hd := ⟨rfl, rfl⟩
  hlq := fun h => nomatch h
  hsc := by decide +kernel
  hpl := by decide
  hck := by decide +kernel
  hU := rfl
  hb := ⟨fun kV doc pm an cdv ct us hl => match us, hl with | [_, _], _ => rfl, fun q hq => nomatch hq⟩
def r_is_chance_row : FRow tabs gl tf U where
  d := dd_is_chance_row
  num := 223
  fuel := 300
  N := ["many", "thing"]
  ps := ["many", "thing"]
  b := b_is_chance_row
  kws := []
  lq := false
  kp := false
  hd := ⟨rfl, rfl⟩
  hlq := fun h => nomatch h
  hsc := by decide +kernel
  hpl := by decide
  hck := by decide +kernel
  hU := rfl
  hb := ⟨fun kV doc pm an cdv ct us hl => match us, hl with | [_, _], _ => rfl, fun q hq => nomatch hq⟩
def r_Walk___eq__ : FRow tabs gl tf U where
  d := dd_Walk___eq__
  num := 101
  fuel := 300
  N := ["self", "other"]
  ps := ["self", "other"]
  b := b_Walk___eq__
  kws := []
  lq := false
  kp := false
  hd := ⟨rfl, rfl⟩
  hlq := fun h => nomatch h
  hsc := by decide +kernel
  hpl := by decide
  hck := by decide +kernel
  hU := rfl
  hb := ⟨fun kV doc pm an cdv ct us hl => match us, hl with | [_, _], _ => rfl, fun q hq => nomatch hq⟩
def r_are_moves : FRow tabs gl tf U where
  d := dd_are_moves
  num := 366
  fuel := 300
  N := ["thing", "rows", "row"]
  ps := ["thing"]
  b := b_are_moves
  kws := []
  lq := false
  kp := false
  hd := ⟨rfl, rfl⟩
  hlq := fun h => nomatch h
  hsc := by decide +kernel
  hpl := by decide
  hck := by decide +kernel
  hU := rfl
  hb := ⟨fun kV doc pm an cdv ct us hl => match us, hl with | [_], _ => rfl, fun q hq => nomatch hq⟩
def r_House___eq__ : FRow tabs gl tf U where
  d := dd_House___eq__
  num := 111
  fuel := 300
  N := ["self", "other"]
  ps := ["self", "other"]
  b := b_House___eq__
  kws := []
  lq := false
  kp := false
  hd := ⟨rfl, rfl⟩
  hlq := fun h => nomatch h
  hsc := by decide +kernel
  hpl := by decide
  hck := by decide +kernel
  hU := rfl
  hb := ⟨fun kV doc pm an cdv ct us hl => match us, hl with | [_, _], _ => rfl, fun q hq => nomatch hq⟩
def r_need_house : FRow tabs gl tf U where
  d := dd_need_house
  num := 367
  fuel := 300
  N := ["house"]
  ps := ["house"]
  b := b_need_house
  kws := []
  lq := false
  kp := false
  hd := ⟨rfl, rfl⟩
  hlq := fun h => nomatch h
  hsc := by decide +kernel
  hpl := by decide
  hck := by decide +kernel
  hU := rfl
  hb := ⟨fun kV doc pm an cdv ct us hl => match us, hl with | [_], _ => rfl, fun q hq => nomatch hq⟩
def r_is_plan : FRow tabs gl tf U where
  d := dd_is_plan
  num := 368
  fuel := 300
  N := ["house", "thing", "item", "rows"]
  ps := ["house", "thing"]
  b := b_is_plan
  kws := []
  lq := false
  kp := false
  hd := ⟨rfl, rfl⟩
  hlq := fun h => nomatch h
  hsc := by decide +kernel
  hpl := by decide
  hck := by decide +kernel
  hU := rfl
  hb := ⟨fun kV doc pm an cdv ct us hl => match us, hl with | [_, _], _ => rfl, fun q hq => nomatch hq⟩
def r_need_plan : FRow tabs gl tf U where
  d := dd_need_plan
  num := 369
  fuel := 300
  N := ["house", "plan"]
  ps := ["house", "plan"]
  b := b_need_plan
  kws := []
  lq := false
  kp := false
  hd := ⟨rfl, rfl⟩
  hlq := fun h => nomatch h
  hsc := by decide +kernel
  hpl := by decide
  hck := by decide +kernel
  hU := rfl
  hb := ⟨fun kV doc pm an cdv ct us hl => match us, hl with | [_, _], _ => rfl, fun q hq => nomatch hq⟩
def r_rows_of : FRow tabs gl tf U where
  d := dd_rows_of
  num := 370
  fuel := 300
  N := ["house", "plan", "rows", "item"]
  ps := ["house", "plan"]
  b := b_rows_of
  kws := []
  lq := false
  kp := false
  hd := ⟨rfl, rfl⟩
  hlq := fun h => nomatch h
  hsc := by decide +kernel
  hpl := by decide
  hck := by decide +kernel
  hU := rfl
  hb := ⟨fun kV doc pm an cdv ct us hl => match us, hl with | [_, _], _ => rfl, fun q hq => nomatch hq⟩
def r_stays_in : FRow tabs gl tf U where
  d := dd_stays_in
  num := 371
  fuel := 300
  N := ["row", "places", "place"]
  ps := ["row", "places"]
  b := b_stays_in
  kws := []
  lq := false
  kp := false
  hd := ⟨rfl, rfl⟩
  hlq := fun h => nomatch h
  hsc := by decide +kernel
  hpl := by decide
  hck := by decide +kernel
  hU := rfl
  hb := ⟨fun kV doc pm an cdv ct us hl => match us, hl with | [_, _], _ => rfl, fun q hq => nomatch hq⟩
def r_staying_lot : FRow tabs gl tf U where
  d := dd_staying_lot
  num := 372
  fuel := 300
  N := ["house", "found", "lap", "place", "row"]
  ps := ["house"]
  b := b_staying_lot
  kws := []
  lq := false
  kp := false
  hd := ⟨rfl, rfl⟩
  hlq := fun h => nomatch h
  hsc := by decide +kernel
  hpl := by decide
  hck := by decide +kernel
  hU := rfl
  hb := ⟨fun kV doc pm an cdv ct us hl => match us, hl with | [_], _ => rfl, fun q hq => nomatch hq⟩
def r_walk_of : FRow tabs gl tf U where
  d := dd_walk_of
  num := 373
  fuel := 300
  N := ["house", "plan"]
  ps := ["house", "plan"]
  b := b_walk_of
  kws := [⟨0, ["plan", "house"], [1, 0]⟩]
  lq := false
  kp := false
  hd := ⟨rfl, rfl⟩
  hlq := fun h => nomatch h
  hsc := by decide +kernel
  hpl := by decide
  hck := by decide +kernel
  hU := rfl
  hb := ⟨fun kV doc pm an cdv ct us hl => match us, hl with | [_, _], _ => rfl, fun q hq => by
    simp only [List.mem_cons, List.not_mem_nil, or_false] at hq
    rcases hq with rfl
    · exact ⟨rfl, by decide, fun kV doc pm an cdv ct us ws l1 l2 => match us, ws, l1, l2 with | [], [_, _], _, _ => rfl⟩⟩
def r_trap : FRow tabs gl tf U where
  d := dd_trap
  num := 374
  fuel := 300
  N := ["house", "places", "plan", "place", "rows", "fit", "k", "row"]
  ps := ["house"]
  b := b_trap
  kws := [⟨0, ["house"], [0]⟩]
  lq := false
  kp := false
  hd := ⟨rfl, rfl⟩
  hlq := fun h => nomatch h
  hsc := by decide +kernel
  hpl := by decide
  hck := by decide +kernel
  hU := rfl
  hb := ⟨fun kV doc pm an cdv ct us hl => match us, hl with | [_], _ => rfl, fun q hq => by
    simp only [List.mem_cons, List.not_mem_nil, or_false] at hq
    rcases hq with rfl
    · exact ⟨rfl, by decide, fun kV doc pm an cdv ct us ws l1 l2 => match us, ws, l1, l2 with | [], [_], _, _ => rfl⟩⟩
def r__law_begun : FRow tabs gl tf U where
  d := dd__law_begun
  num := 244
  fuel := 300
  N := ["_law_script", "_law_large", "_law_cell"]
  ps := ["_law_script"]
  b := b_L_begun
  kws := []
  lq := false
  kp := true
  hd := ⟨rfl, rfl⟩
  hlq := fun h => nomatch h
  hsc := by decide +kernel
  hpl := by decide
  hck := by decide +kernel
  hU := rfl
  hb := ⟨fun kV doc pm an cdv ct us hl => match us, hl with | [_], _ => rfl, fun q hq => nomatch hq⟩
def r__law_blend : FRow tabs gl tf U where
  d := dd__law_blend
  num := 245
  fuel := 300
  N := ["_law_draw", "_law_turn", "_law_found", "_law_prime", "_law_mixed", "_law_cell"]
  ps := ["_law_draw"]
  b := b_L_blend
  kws := []
  lq := false
  kp := false
  hd := ⟨rfl, rfl⟩
  hlq := fun h => nomatch h
  hsc := by decide +kernel
  hpl := by decide
  hck := by decide +kernel
  hU := rfl
  hb := ⟨fun kV doc pm an cdv ct us hl => match us, hl with | [_], _ => rfl, fun q hq => nomatch hq⟩
def r__law_take : FRow tabs gl tf U where
  d := dd__law_take
  num := 246
  fuel := 300
  N := ["_law_draw", "_law_size", "_law_found"]
  ps := ["_law_draw", "_law_size"]
  b := b_L_take
  kws := []
  lq := false
  kp := false
  hd := ⟨rfl, rfl⟩
  hlq := fun h => nomatch h
  hsc := by decide +kernel
  hpl := by decide
  hck := by decide +kernel
  hU := rfl
  hb := ⟨fun kV doc pm an cdv ct us hl => match us, hl with | [_, _], _ => rfl, fun q hq => nomatch hq⟩
def r__law_pick : FRow tabs gl tf U where
  d := dd__law_pick
  num := 247
  fuel := 300
  N := ["_law_draw", "_law_some"]
  ps := ["_law_draw", "_law_some"]
  b := b_L_pick
  kws := []
  lq := false
  kp := false
  hd := ⟨rfl, rfl⟩
  hlq := fun h => nomatch h
  hsc := by decide +kernel
  hpl := by decide
  hck := by decide +kernel
  hU := rfl
  hb := ⟨fun kV doc pm an cdv ct us hl => match us, hl with | [_, _], _ => rfl, fun q hq => nomatch hq⟩
def r__law_divisor : FRow tabs gl tf U where
  d := dd__law_divisor
  num := 250
  fuel := 300
  N := ["_law_numbers", "_law_found", "_law_number", "_law_here", "_law_there"]
  ps := ["_law_numbers"]
  b := b_L_divisor
  kws := []
  lq := false
  kp := false
  hd := ⟨rfl, rfl⟩
  hlq := fun h => nomatch h
  hsc := by decide +kernel
  hpl := by decide
  hck := by decide +kernel
  hU := rfl
  hb := ⟨fun kV doc pm an cdv ct us hl => match us, hl with | [_], _ => rfl, fun q hq => nomatch hq⟩
def r__law_pair : FRow tabs gl tf U where
  d := dd__law_pair
  num := 257
  fuel := 300
  N := ["_law_scale", "_law_numbers_here", "_law_found", "_law_item"]
  ps := ["_law_scale", "_law_numbers_here"]
  b := b_L_pair
  kws := []
  lq := false
  kp := false
  hd := ⟨rfl, rfl⟩
  hlq := fun h => nomatch h
  hsc := by decide +kernel
  hpl := by decide
  hck := by decide +kernel
  hU := rfl
  hb := ⟨fun kV doc pm an cdv ct us hl => match us, hl with | [_, _], _ => rfl, fun q hq => nomatch hq⟩
def r__law_some_many : FRow tabs gl tf U where
  d := dd__law_some_many
  num := 258
  fuel := 300
  N := ["_law_draw", "_law_bound", "_law_k"]
  ps := ["_law_draw", "_law_bound"]
  b := b_L_some_many
  kws := []
  lq := false
  kp := false
  hd := ⟨rfl, rfl⟩
  hlq := fun h => nomatch h
  hsc := by decide +kernel
  hpl := by decide
  hck := by decide +kernel
  hU := rfl
  hb := ⟨fun kV doc pm an cdv ct us hl => match us, hl with | [_, _], _ => rfl, fun q hq => nomatch hq⟩
def r__law_first_due : FRow tabs gl tf U where
  d := dd__law_first_due
  num := 276
  fuel := 300
  N := ["_law_draw", "_law_work", "_law_args", "_law_bads", "_law_wrong", "_law_told", "_law_spot", "_law_item", "_law_is_due", "_law_caught_here", "_law_each"]
  ps := ["_law_draw", "_law_work", "_law_args", "_law_bads"]
  b := b_L_first_due
  kws := []
  lq := true
  kp := false
  hd := ⟨rfl, rfl⟩
  hlq := fun _ => by decide +kernel
  hsc := by decide +kernel
  hpl := by decide
  hck := by decide +kernel
  hU := rfl
  hb := ⟨fun kV doc pm an cdv ct us hl => match us, hl with | [_, _, _, _], _ => rfl, fun q hq => nomatch hq⟩
def r__law_house_rows : FRow tabs gl tf U where
  d := dd__law_house_rows
  num := 375
  fuel := 300
  N := ["_law_draw", "_law_many", "_law_is_leaky", "_law_found", "_law_place", "_law_some", "_law_lap", "_law_line", "_law_lost", "_law_spot"]
  ps := ["_law_draw", "_law_many", "_law_is_leaky"]
  b := b_L_house_rows
  kws := []
  lq := false
  kp := false
  hd := ⟨rfl, rfl⟩
  hlq := fun h => nomatch h
  hsc := by decide +kernel
  hpl := by decide
  hck := by decide +kernel
  hU := rfl
  hb := ⟨fun kV doc pm an cdv ct us hl => match us, hl with | [_, _, _], _ => rfl, fun q hq => nomatch hq⟩
def r__law_plans : FRow tabs gl tf U where
  d := dd__law_plans
  num := 376
  fuel := 300
  N := ["_law_moves", "_law_found", "_law_some", "_law_longer", "_law_plan", "_law_k"]
  ps := ["_law_moves"]
  b := b_L_plans
  kws := []
  lq := false
  kp := false
  hd := ⟨rfl, rfl⟩
  hlq := fun h => nomatch h
  hsc := by decide +kernel
  hpl := by decide
  hck := by decide +kernel
  hU := rfl
  hb := ⟨fun kV doc pm an cdv ct us hl => match us, hl with | [_], _ => rfl, fun q hq => nomatch hq⟩
def r__law_rows_of : FRow tabs gl tf U where
  d := dd__law_rows_of
  num := 377
  fuel := 300
  N := ["_law_moves", "_law_plan", "_law_some", "_law_k"]
  ps := ["_law_moves", "_law_plan"]
  b := b_L_rows_of
  kws := []
  lq := false
  kp := false
  hd := ⟨rfl, rfl⟩
  hlq := fun h => nomatch h
  hsc := by decide +kernel
  hpl := by decide
  hck := by decide +kernel
  hU := rfl
  hb := ⟨fun kV doc pm an cdv ct us hl => match us, hl with | [_, _], _ => rfl, fun q hq => nomatch hq⟩
def r__law_stays : FRow tabs gl tf U where
  d := dd__law_stays
  num := 300
  fuel := 300
  N := ["_law_row", "_law_lot", "_law_place"]
  ps := ["_law_row", "_law_lot"]
  b := b_L_stays
  kws := []
  lq := false
  kp := false
  hd := ⟨rfl, rfl⟩
  hlq := fun h => nomatch h
  hsc := by decide +kernel
  hpl := by decide
  hck := by decide +kernel
  hU := rfl
  hb := ⟨fun kV doc pm an cdv ct us hl => match us, hl with | [_, _], _ => rfl, fun q hq => nomatch hq⟩
def r__law_trap : FRow tabs gl tf U where
  d := dd__law_trap
  num := 378
  fuel := 300
  N := ["_law_moves", "_law_left", "_law_lap", "_law_place", "_law_row"]
  ps := ["_law_moves"]
  b := b_L_trap
  kws := []
  lq := false
  kp := false
  hd := ⟨rfl, rfl⟩
  hlq := fun h => nomatch h
  hsc := by decide +kernel
  hpl := by decide
  hck := by decide +kernel
  hU := rfl
  hb := ⟨fun kV doc pm an cdv ct us hl => match us, hl with | [_], _ => rfl, fun q hq => nomatch hq⟩
def r__law_bad_house : FRow tabs gl tf U where
  d := dd__law_bad_house
  num := 379
  fuel := 300
  N := ["_law_draw", "_law_moves"]
  ps := ["_law_draw", "_law_moves"]
  b := b_L_bad_house
  kws := []
  lq := false
  kp := false
  hd := ⟨rfl, rfl⟩
  hlq := fun h => nomatch h
  hsc := by decide +kernel
  hpl := by decide
  hck := by decide +kernel
  hU := rfl
  hb := ⟨fun kV doc pm an cdv ct us hl => match us, hl with | [_, _], _ => rfl, fun q hq => nomatch hq⟩
def r__law_bad_plan : FRow tabs gl tf U where
  d := dd__law_bad_plan
  num := 380
  fuel := 300
  N := ["_law_draw", "_law_plan", "_law_spot", "_law_odd", "_law_bent"]
  ps := ["_law_draw", "_law_plan"]
  b := b_L_bad_plan
  kws := []
  lq := false
  kp := false
  hd := ⟨rfl, rfl⟩
  hlq := fun h => nomatch h
  hsc := by decide +kernel
  hpl := by decide
  hck := by decide +kernel
  hU := rfl
  hb := ⟨fun kV doc pm an cdv ct us hl => match us, hl with | [_, _], _ => rfl, fun q hq => nomatch hq⟩
def r__law_bad_moves : FRow tabs gl tf U where
  d := dd__law_bad_moves
  num := 381
  fuel := 300
  N := ["_law_draw", "_law_moves", "_law_spot", "_law_many", "_law_row", "_law_rows", "_law_bent", "_law_some"]
  ps := ["_law_draw", "_law_moves"]
  b := b_L_bad_moves
  kws := []
  lq := false
  kp := false
  hd := ⟨rfl, rfl⟩
  hlq := fun h => nomatch h
  hsc := by decide +kernel
  hpl := by decide
  hck := by decide +kernel
  hU := rfl
  hb := ⟨fun kV doc pm an cdv ct us hl => match us, hl with | [_, _], _ => rfl, fun q hq => nomatch hq⟩
def r__law_scaled_moves : FRow tabs gl tf U where
  d := dd__law_scaled_moves
  num := 382
  fuel := 300
  N := ["_law_draw", "_law_moves", "_law_found", "_law_some", "_law_rows", "_law_total", "_law_line", "_law_factor", "_law_item"]
  ps := ["_law_draw", "_law_moves"]
  b := b_L_scaled_moves
  kws := []
  lq := false
  kp := false
  hd := ⟨rfl, rfl⟩
  hlq := fun h => nomatch h
  hsc := by decide +kernel
  hpl := by decide
  hck := by decide +kernel
  hU := rfl
  hb := ⟨fun kV doc pm an cdv ct us hl => match us, hl with | [_, _], _ => rfl, fun q hq => nomatch hq⟩
def r_law : FRow tabs gl tf U where
  d := dd_law
  num := 383
  fuel := 300
  N := ["_law_script", "_law_draw", "_law_turn", "_law_many", "_law_moves", "_law_house_here", "_law_other", "_law_plan", "_law_due", "_law_lot", "_law_first", "_law_place", "_law_some", "_law_shut", "_law_bads", "_law_one", "_law_k", "_law_row"]
  ps := ["_law_script"]
  b := b_law_v10
  kws := []
  lq := true
  kp := false
  hd := ⟨rfl, rfl⟩
  hlq := fun _ => by decide +kernel
  hsc := by decide +kernel
  hpl := by decide
  hck := by decide +kernel
  hU := rfl
  hb := ⟨fun kV doc pm an cdv ct us hl => match us, hl with | [_], _ => rfl, fun q hq => nomatch hq⟩
def r_Walk___init__ : IRow tabs gl tf U where
  x := "Walk"
  d := dd_Walk___init__
  num := 100
  fuel := 300
  N := ["self", "rows", "total", "numbers", "row"]
  ps := ["self", "rows"]
  b := b_Walk___init__
  kws := []
  lq := false
  hd := ⟨rfl, rfl⟩
  hat := rfl
  hlq := fun h => nomatch h
  hsc := by decide +kernel
  hpl := by decide
  hck := by decide +kernel
  hU := rfl
  hb := ⟨fun kV doc pm an cdv ct us hl => match us, hl with | [_, _], _ => rfl, fun q hq => nomatch hq⟩
def r_House___init__ : IRow tabs gl tf U where
  x := "House"
  d := dd_House___init__
  num := 110
  fuel := 300
  N := ["self", "moves", "rows", "total", "numbers"]
  ps := ["self", "moves"]
  b := b_House___init__
  kws := [⟨0, ["moves"], [0]⟩]
  lq := false
  hd := ⟨rfl, rfl⟩
  hat := rfl
  hlq := fun h => nomatch h
  hsc := by decide +kernel
  hpl := by decide
  hck := by decide +kernel
  hU := rfl
  hb := ⟨fun kV doc pm an cdv ct us hl => match us, hl with | [_, _], _ => rfl, fun q hq => by
    simp only [List.mem_cons, List.not_mem_nil, or_false] at hq
    rcases hq with rfl
    · exact ⟨rfl, by decide, fun kV doc pm an cdv ct us ws l1 l2 => match us, ws, l1, l2 with | [_], [_], _, _ => rfl⟩⟩
def r_lam540 : LRow tabs gl U where
  num := 540
  d := lm_540
  fuel := 300
  N := ["_law_error"]
  ps := ["_law_error"]
  e := ((.isi (.x 0) [.cls 3]))
  hsc := by decide +kernel
  hpl := by decide
  hck := by decide +kernel
  hU := rfl
  hb := fun pm cv ctv us hl => match us, hl with | [_], _ => rfl
def r_lam539 : LRow tabs gl U where
  num := 539
  d := lm_539
  fuel := 300
  N := ["_law_told"]
  ps := ["_law_told"]
  e := ((.call 374 (.cons (.idx (.x 0) (.ki 0)) .nil)))
  hsc := by decide +kernel
  hpl := by decide
  hck := by decide +kernel
  hU := rfl
  hb := fun pm cv ctv us hl => match us, hl with | [_], _ => rfl
def r_lam538 : LRow tabs gl U where
  num := 538
  d := lm_538
  fuel := 300
  N := ["_law_error"]
  ps := ["_law_error"]
  e := ((.isi (.x 0) [.cls 4]))
  hsc := by decide +kernel
  hpl := by decide
  hck := by decide +kernel
  hU := rfl
  hb := fun pm cv ctv us hl => match us, hl with | [_], _ => rfl
def r_lam537 : LRow tabs gl U where
  num := 537
  d := lm_537
  fuel := 300
  N := ["_law_told"]
  ps := ["_law_told"]
  e := ((.call 373 (.cons (.idx (.x 0) (.ki 0)) (.cons (.idx (.x 0) (.ki 1)) .nil))))
  hsc := by decide +kernel
  hpl := by decide
  hck := by decide +kernel
  hU := rfl
  hb := fun pm cv ctv us hl => match us, hl with | [_], _ => rfl
def r_lam536 : LRow tabs gl U where
  num := 536
  d := lm_536
  fuel := 300
  N := ["_law_error"]
  ps := ["_law_error"]
  e := ((.isi (.x 0) [.cls 2]))
  hsc := by decide +kernel
  hpl := by decide
  hck := by decide +kernel
  hU := rfl
  hb := fun pm cv ctv us hl => match us, hl with | [_], _ => rfl
def r_lam535 : LRow tabs gl U where
  num := 535
  d := lm_535
  fuel := 300
  N := ["_law_told"]
  ps := ["_law_told"]
  e := ((.call 110 (.cons (.idx (.x 0) (.ki 0)) .nil)))
  hsc := by decide +kernel
  hpl := by decide
  hck := by decide +kernel
  hU := rfl
  hb := fun pm cv ctv us hl => match us, hl with | [_], _ => rfl
def fs0 : List (FRow tabs gl tf U) := [r_is_number, r_is_between, r_is_list, r_is_row, r_is_count_row, r_divisor_of, r_least_pair, r_is_index, r_is_chance_row, r_Walk___eq__, r_are_moves, r_House___eq__, r_need_house, r_is_plan, r_need_plan, r_rows_of, r_stays_in, r_staying_lot, r_walk_of, r_trap]
def fs1 : List (FRow tabs gl tf U) := [r__law_begun, r__law_blend, r__law_take, r__law_pick, r__law_divisor, r__law_pair, r__law_some_many, r__law_first_due, r__law_house_rows, r__law_plans, r__law_rows_of, r__law_stays, r__law_trap, r__law_bad_house, r__law_bad_plan, r__law_bad_moves, r__law_scaled_moves, r_law]
def fs : List (FRow tabs gl tf U) := fs0 ++ fs1
def is0 : List (IRow tabs gl tf U) := [r_Walk___init__, r_House___init__]
def is : List (IRow tabs gl tf U) := is0
def ls0 : List (LRow tabs gl U) := [r_lam540, r_lam539, r_lam538, r_lam537, r_lam536, r_lam535]
def ls : List (LRow tabs gl U) := ls0
def lw : Lawd tabs gl tf U := lawd_of fs is ls (by decide +kernel) (by decide +kernel) rfl
def fn0 : List (He.DefD) := [dd_is_number, dd_is_between, dd_is_list, dd_is_row, dd_is_count_row, dd_divisor_of, dd_least_pair, dd_is_index, dd_is_chance_row, dd_Walk___eq__, dd_are_moves, dd_House___eq__, dd_need_house, dd_is_plan, dd_need_plan, dd_rows_of, dd_stays_in, dd_staying_lot, dd_walk_of, dd_trap]
def fn1 : List (He.DefD) := [dd__law_begun, dd__law_blend, dd__law_take, dd__law_pick, dd__law_divisor, dd__law_pair, dd__law_some_many, dd__law_first_due, dd__law_house_rows, dd__law_plans, dd__law_rows_of, dd__law_stays, dd__law_trap, dd__law_bad_house, dd__law_bad_plan, dd__law_bad_moves, dd__law_scaled_moves, dd_law, dd_Walk___init__, dd_House___init__]
def fn2 : List (He.DefD) := [dd__law_caught]
def fn : List (He.DefD) := fn0 ++ fn1 ++ fn2
theorem hfn : ∀ r ∈ lw.fs, r.d ∈ fn := fun r hr => by
  have e : fn = fs.map (·.d) ++ (is.map (·.d) ++ [dd__law_caught]) := rfl
  rw [e]
  exact List.mem_append_left _ (List.mem_map.mpr ⟨r, hr, rfl⟩)
theorem hin : ∀ r ∈ lw.is, r.d ∈ fn := fun r hr => by
  have e : fn = fs.map (·.d) ++ (is.map (·.d) ++ [dd__law_caught]) := rfl
  rw [e]
  exact List.mem_append_right _ (List.mem_append_left _ (List.mem_map.mpr ⟨r, hr, rfl⟩))
def names0 : List (Str) := ["StopError", "BadHouse", "BadMoves", "BadPlan", "BadRows", "is_number", "is_between", "is_list", "is_row", "is_count_row", "divisor_of", "least_pair", "is_index", "MOST_PLACES", "is_chance_row", "Walk", "are_moves", "House", "need_house", "is_plan"]
def names1 : List (Str) := ["need_plan", "rows_of", "stays_in", "staying_lot", "walk_of", "trap", "_law_begun", "_law_blend", "_law_take", "_law_pick", "_law_caught", "_law_divisor", "_law_pair", "_law_some_many", "_law_first_due", "_law_house_rows", "_law_plans", "_law_rows_of", "_law_stays", "_law_trap"]
def names2 : List (Str) := ["_law_bad_house", "_law_bad_plan", "_law_bad_moves", "_law_scaled_moves"]
def names : List (Str) := names0 ++ names1 ++ names2
def fa : List He.Fa := faOf gl ++ [.glo "law", .glo "StopError", .glo "_law_caught"]
abbrev R : PySem.W.OpenRow := PySem.W.OpenLaw.row PySem.Challenge.rw_stoppedso_k81_houses_and_where_one_may_s
abbrev tfd : List He.Defn := tf.map (·.1)
def as : List Addr := List.range 1000
abbrev hk : PySem.W.Hook := hookY as fa fn tfd (exB tabs U tf "StopError")
def ob (s : PySem.W.SharedT) : He.AlX := obsY as fa fn tfd (exB tabs U tf "StopError") (HandSHeadRun.getT s)
theorem ob_eq (s : PySem.W.SharedT) : ob s = hk.obs s.abs := obsY_eq (HandSHeadRun.getT_eq s)
section
open PySem.W PySem.Calls
theorem run1 (w : World) (os : OsState) : (endS R 6000 w os).map (fun s => HandSHeadRun.looksF R.prog (boot_heap w.params) s.abs) = some true := by kernel_rfl
theorem run2 (w : World) (os : OsState) : (endS R 6000 w os).map (fun s => HandSHeadRun.seenQ (view R.prog [49]) names (importedModules R.prog.main.body) (fun s => xlAt (view R.prog [49]) [] s && recOk R.toRowW.records s) s.abs) = some (openGood (view R.prog [49]) names) := by kernel_rfl
theorem run3 (w : World) (os : OsState) : (endS R 6000 w os).map (fun s => He.obsT fa fn [] (He.frT (HandSHeadRun.getT s) as)) = some (He.valT fn [] w) := by kernel_rfl
theorem run4 (w : World) (os : OsState) : (endS R 6000 w os).map (fun s => exQ as tfd (exB tabs U tf "StopError") (HandSHeadRun.getT s)) = some true := by kernel_rfl
theorem run (w : World) : HandSHeadRun.RunEq R (view R.prog [49]) hk ob 6000 names w := run_parts (run1 w) (run2 w) (run3 w) (run4 w)
end
theorem caught_at {w : World} {K : PySem.W.Frag} {h : Heap} {mg : Str → Option Value} (c : He.SaysX fa fn [] tfd (exB tabs U tf "StopError") w h K) (KX : K.In h) (G : h.Ns mainGlobals mg) (base : Heap) (x : Str) (hx : gl.lookup x = some .caught) : CaughtOk PySem.Challenge.pw_stoppedso_k81_houses_and_where_one_may_s w K mg base (tabs.bk K) x := by
  have e : x = "_law_caught" := by
    have q : gl.all (fun p => match p.2 with
      | .caught => decide (p.1 = "_law_caught")
      | _ => true) = true := by decide +kernel
    exact of_decide_eq_true (List.all_eq_true.mp q _ (lookup_memS hx))
  subst e
  have F := c.t.d.defs (d := dd__law_caught) (List.mem_of_getElem? (i := 40) rfl)
  exact caught_ok (d := dd__law_caught) (a := "_law_work") (hv := "_law_caught_here") (er := "_law_error") (e := "StopError") (Ng := ["_law_work", "_law_caught_here", "_law_error"]) (ih := 1) (ie := 2) F rfl rfl rfl rfl (He.glo_ok KX G (c.t.d.facts (List.mem_append_right _ (by simp)))) (He.glo_ok KX G (c.t.d.facts (List.mem_append_right _ (by simp)))) (fun C k hk => exm_of c.more hk)
    (by decide +kernel) ⟨fun kV doc pm an cdv ct us hl => match us, hl with | [_], _ => rfl, fun q hq => nomatch hq⟩ (by decide +kernel) rfl rfl (by decide) (by decide) (by decide) (by decide +kernel) (by decide +kernel) rfl (by decide +kernel) (by decide +kernel) (by decide +kernel) (by decide +kernel) (by decide +kernel) (by decide +kernel)
end Sv.k81
open PySem PySem.W PySem.Calls PyProof.Rows
theorem PySem.Challenge.cw_stoppedso_k81_houses_and_where_one_may_s_holds : PySem.Challenge.rw_stoppedso_k81_houses_and_where_one_may_s.Holds := by
  w_on; o_law
  refine HandSHeadRun.head_any (r := OpenLaw.row PySem.Challenge.rw_stoppedso_k81_houses_and_where_one_may_s) (q := view (OpenLaw.row PySem.Challenge.rw_stoppedso_k81_houses_and_where_one_may_s).prog [49]) (H := Sv.k81.hk) (ob := Sv.k81.ob) (M := 6000) (loose := Sv.k81.names) (d := HandSHeadRun.topDef (OpenLaw.row PySem.Challenge.rw_stoppedso_k81_houses_and_where_one_may_s).prog 49) (kwd := []) Sv.k81.ob_eq
    (by kernel_rfl) (fun s => by kernel_rfl) Sv.k81.run (by kernel_rfl) (by kernel_rfl) (by kernel_rfl) (by rfl) (by first | assumption | decide +kernel) (by decide +kernel) ⟨rfl, rfl, rfl, rfl, rfl, by decide +kernel⟩ ?hw ?hc
  case hw => w_witness2
  case hc =>
    refine LamX.walk_ofTsE (l := PySem.Challenge.rw_stoppedso_k81_houses_and_where_one_may_s) (n := 63) (k := 4 * 12 + 4) (x := "_law_script") (CX := fun w => L2.CX (PySem.Challenge.rw_stoppedso_k81_houses_and_where_one_may_s).prog w) rfl (by decide) (by kernel_rfl) ⟨rfl, by decide, by decide⟩ ?F (fun w H s e s' ⟨_, _, _, _, _, _, _, _, _, _, _, _, z⟩ => z)
    intro w mg fa h Y G hmg0
    obtain ⟨K, KX, c⟩ := Y
    have hmg : mg ("law" : PySem.Str) = some (.ref fa) := by
      have e : (HandSHeadRun.topDef (OpenLaw.row PySem.Challenge.rw_stoppedso_k81_houses_and_where_one_may_s).prog 49).name = ("law" : PySem.Str) := by kernel_rfl
      rw [← e]
      exact hmg0
    exact ⟨K, KX, Sv.law_at (L := Sv.k81.lw) c KX G hmg (fun f hf => List.mem_append_left _ hf) Sv.k81.hfn Sv.k81.hin (fun base _ x hx => Sv.k81.caught_at c KX G base x hx) (r := Sv.k81.r_law) (List.mem_of_getElem? (i := 37) rfl) rfl rfl (List.mem_append_right _ (by simp)) (fun ns h1 h2 => Sv.plain81 (U := Sv.k81.U) (n := 0) h1 (fun z hz => by have h3 := h2 z hz; unfold Builtin.Int.intBits at h3; split at h3 <;> simp_all <;> omega))⟩
