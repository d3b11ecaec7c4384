import PyProof.Rows.All
import HandS.ForMost
import HandS.TupAny
import HandS.TupMul
import HandS.TupLe
import HandS.IsInst
import HandS.Style
import HandS.Deep
import HandS.RaiseMore
import HandS.Walk
import HandS.Zip
import KE.GoesEnum
import KE.GoesZip
import KE.GoesMore
import HandS.Flow
import HandS.Dict
import HandS.Codes
import HandS.Defaults
import KE.KStateDown
import HandS.Ends
import HandS.More
import HandS.Words
import HandS.Head0
import HandS.Head1
import HandS.Head2
import HandS.HeadEnd
import HandS.HeadHook1
import HandS.HeadHook2
import PySem.Challenge.RW_settlepages_k63_whole_strips_cut_ahead
set_option Elab.async false
set_option linter.all false
/-! A small evaluator of Python's pure core over plain data, by fuel; no heap, no machine. -/
namespace Ev
open PySem

abbrev D := PyData
/-- a slot of a frame: nothing yet, a value, a list or dict of the frame's own, one that a caller lent -/
inductive Sl where
  | un | val (d : D) | own (d : D) | bor (d : D)
abbrev Env := List Sl
/-- what an expression gives: a value, a new object that nothing else knows, the object of a slot -/
inductive TV where
  | d (v : D) | f (v : D) | s (i : Nat)
inductive Res (α : Type) where
  | ok (a : α) (r : Env)
  | exc (c : Str) (d : D) (r : Env)
  | stuck
def Res.bind {α β : Type} (m : Res α) (f : α → Env → Res β) : Res β :=
  match m with
  | .ok a r => f a r
  | .exc c d r => .exc c d r
  | .stuck => .stuck
theorem bind_ok {α β : Type} (a : α) (r : Env) (f : α → Env → Res β) : (Res.ok a r).bind f = f a r := rfl
theorem bind_stuck {α β : Type} (f : α → Env → Res β) : (Res.stuck : Res α).bind f = .stuck := rfl
theorem bind_exc {α β : Type} (c : Str) (d : D) (r : Env) (f : α → Env → Res β) : (Res.exc c d r : Res α).bind f = .exc c d r := rfl
/-- an answer or none -/
def Res.of {α : Type} (o : Option α) (r : Env) : Res α :=
  match o with
  | some a => .ok a r
  | none => .stuck
theorem of_some {α : Type} (a : α) (r : Env) : Res.of (some a) r = .ok a r := rfl
theorem of_none {α : Type} (r : Env) : Res.of (none : Option α) r = .stuck := rfl

inductive Fl where
  | nx | brk | cnt | ret (fr : Bool) (v : D)
/-- what a call gives: whether the object is new, the value, what the lent objects are behind it -/
inductive CR where
  | ok (fr : Bool) (v : D) (outs : List D)
  | exc (c : Str) (d : D)
  | stuck

def deref (r : Env) : TV → Option D
  | .d v => some v
  | .f v => some v
  | .s i => match r[i]? with
    | some (.val d) => some d
    | some (.own d) => some d
    | some (.bor d) => some d
    | _ => none
def solid (r : Env) : TV → Option (D × Env)
  | .d v => some (v, r)
  | .f v => some (v, r)
  | .s i => match r[i]? with
    | some (.val d) => some (d, r)
    | some (.own d) => some (d, r.set i (.val d))
    | _ => none
def solidR (r : Env) (t : TV) : Res D :=
  match solid r t with
  | some (v, r') => .ok v r'
  | none => .stuck

/-- is it a dict? -/
def isDict : D → Bool
  | .dict [(.none, _)] => false
  | .dict _ => true
  | _ => false
def dictR (r : Env) (t : TV) : Res Unit :=
  match deref r t with
  | some u => if isDict u = true then .ok () r else .stuck
  | none => .stuck

/-! ### operators by values -/
inductive Bo where
  | add | sub | mul | div | mod | pow
  deriving DecidableEq
inductive Co where
  | eq | ne | lt | le | gt | ge | is | isNot | inn | notIn
  deriving DecidableEq
inductive Ty where
  | int | bool | str | tuple | list | dict
  deriving DecidableEq
inductive B1 where
  | abs | int | len | list | tuple | sum | all | any | max | min | sorted | str | repr
  deriving DecidableEq
inductive B2 where
  | max | min
  deriving DecidableEq

def SZ : Nat := 16777216
def P64 : Int := 18446744073709551616
def P63 : Int := 9223372036854775808
def P62 : Int := 4611686018427387904

def mulOk (i j : Int) : Bool := (decide (-P64 < i) && decide (i < P64)) || (decide (-P64 < j) && decide (j < P64))
/-- the value, and whether it is a new object -/
def bop : Bo → D → D → Option TV
  | .add, .int i, .int j => some (.d (.int (i + j)))
  | .add, .str x, .str y => if x.length + y.length ≤ SZ then some (.d (.str (x ++ y))) else none
  | .add, .tuple x, .tuple y => if x.length + y.length ≤ SZ then some (.d (.tuple (x ++ y))) else none
  | .add, .list x, .list y => if x.length + y.length ≤ SZ then some (.f (.list (x ++ y))) else none
  | .sub, .int i, .int j => some (.d (.int (i - j)))
  | .mul, .int i, .int j => if mulOk i j then some (.d (.int (i * j))) else none
  | .mul, .tuple x, .int k => if x.length ≤ 1000 ∧ k ≤ 1000 ∧ 2 ≤ k ∧ x.isEmpty = false then some (.d (.tuple (List.replicate k.toNat x).flatten)) else none
  | .div, .int i, .int j => if 0 < j ∧ j < 1073741824 then some (.d (.int (i / j))) else none
  | .mod, .int i, .int j => if 0 < j then some (.d (.int (i % j))) else none
  | .pow, .int i, .int j => if 0 ≤ j ∧ j ≤ 1000000 ∧ i.natAbs < 18446744073709551616 then some (.d (.int (i ^ j.toNat))) else none
  | _, _, _ => none

def scal : D → D → Bool
  | .none, .none => true
  | .none, .int _ => true
  | .int _, .none => true
  | .none, .bool _ => true
  | .bool _, .none => true
  | .none, .str _ => true
  | .str _, .none => true
  | .int _, .int _ => true
  | .bool _, .bool _ => true
  | .str _, .str _ => true
  | .int _, .str _ => true
  | .str _, .int _ => true
  | .bool _, .str _ => true
  | .str _, .bool _ => true
  | _, _ => false
def eqOk (a b : D) : Bool := scal a b || (SeqAt.shaped a && SeqAt.shaped b)
def flat : D → Bool
  | .none => true
  | .bool _ => true
  | .int _ => true
  | .str _ => true
  | _ => false
def inOf (a : D) : D → Option Bool
  | .str z => match a with
    | .str x => match x.cps.toList with
      | [c] => some (decide (c ∈ z.cps.toList))
      | _ => none
    | _ => none
  | .list ys => if flat a && ys.all flat then some (ys.any fun y => PyData.eqv y a)
    else if SeqAt.shaped a && SeqAt.shaped (.list ys) then some (ys.any fun y => PyData.eqv y a) else none
  | .tuple ys => if flat a && ys.all flat then some (ys.any fun y => PyData.eqv y a) else none
  | _ => none
def isOf : D → D → Option Bool
  | a, .none => some (match a with | .none => true | _ => false)
  | .bool a, .bool b => some (a == b)
  | _, _ => none
def ltStr (x y : Str) : Bool := decide (x.cps.toList < y.cps.toList)
def cop : Co → D → D → Option Bool
  | .eq, a, b => if eqOk a b then some (PyData.eqv a b) else none
  | .ne, a, b => if eqOk a b then some (!PyData.eqv a b) else none
  | .lt, .int i, .int j => some (decide (i < j))
  | .le, .int i, .int j => some (decide (i ≤ j))
  | .gt, .int i, .int j => some (decide (j < i))
  | .ge, .int i, .int j => some (decide (j ≤ i))
  | .lt, .str x, .str y => some (ltStr x y)
  | .le, .str x, .str y => some (!ltStr y x)
  | .gt, .str x, .str y => some (ltStr y x)
  | .ge, .str x, .str y => some (!ltStr x y)
  | .is, a, b => isOf a b
  | .isNot, a, b => (isOf a b).map (!·)
  | .inn, a, b => inOf a b
  | .notIn, a, b => (inOf a b).map (!·)
  | _, _, _ => none
def truth : D → Option Bool
  | .none => some false
  | .bool b => some b
  | .int i => some (i != 0)
  | .str y => if y.length ≤ SZ then some ((y.length : Int) != 0) else none
  | .list xs => some (!xs.isEmpty)
  | .tuple xs => some (!xs.isEmpty)
  | _ => none
def notDict : D → Bool
  | .dict _ => false
  | _ => true
def isTy : Ty → D → Bool
  | .int, .int _ => true
  | .int, .bool _ => true
  | .bool, .bool _ => true
  | .str, .str _ => true
  | .tuple, .tuple _ => true
  | .list, .list _ => true
  | _, _ => false
def ixN (n : Nat) (i : Int) : Option Nat := if 0 ≤ i then (if i < n then some i.toNat else none) else if -(n : Int) ≤ i then some (i + n).toNat else none
def atI {α : Type} (xs : List α) (i : Int) : Option α := (ixN xs.length i).bind fun j => xs[j]?
def idx : D → D → Option D
  | .list xs, .int i => atI xs i
  | .tuple xs, .int i => atI xs i
  | .str z, .int i => if z.length ≤ SZ then (atI z.cps.toList i).map fun c => .str ⟨#[c]⟩ else none
  | _, _ => none
def sIx (n d : Nat) : Option Int → Nat
  | none => d
  | some v => if v < 0 then (v + (n : Int)).toNat else min v.toNat n
def cut {α : Type} (xs : List α) (lo hi : Option Int) : List α := (xs.drop (sIx xs.length 0 lo)).take (sIx xs.length xs.length hi - sIx xs.length 0 lo)
def slice (lo hi : Option Int) : D → Option TV
  | .list xs => some (.f (.list (cut xs lo hi)))
  | .tuple xs => some (.d (.tuple (cut xs lo hi)))
  | .str z => if z.length ≤ SZ then some (.d (.str ⟨(cut z.cps.toList lo hi).toArray⟩)) else none
  | _ => none
def intOf : D → Option Int
  | .int i => some i
  | _ => none
def intsL : List D → Option (List Int)
  | [] => some []
  | .int i :: r => (intsL r).map (i :: ·)
  | _ => none
def boolsL : List D → Option (List Bool)
  | [] => some []
  | .bool b :: r => (boolsL r).map (b :: ·)
  | _ => none
def maxL : Int → List Int → Int
  | m, [] => m
  | m, x :: r => maxL (if m < x then x else m) r
def minL : Int → List Int → Int
  | m, [] => m
  | m, x :: r => minL (if x < m then x else m) r
def insI (x : Int) : List Int → List Int
  | [] => [x]
  | y :: r => if x ≤ y then x :: y :: r else y :: insI x r
def sortI : List Int → List Int
  | [] => []
  | x :: r => insI x (sortI r)
def b1 : B1 → D → Option TV
  | .abs, .int i => some (.d (.int (if i < 0 then -i else i)))
  | .int, .int i => some (.d (.int i))
  | .len, .str y => if y.length ≤ SZ then some (.d (.int y.length)) else none
  | .len, .list xs => some (.d (.int xs.length))
  | .len, .tuple xs => some (.d (.int xs.length))
  | .list, .list xs => some (.f (.list xs))
  | .list, .tuple xs => some (.f (.list xs))
  | .list, .dict [(.none, .list xs)] => some (.f (.list xs))
  | .tuple, .list xs => some (.d (.tuple xs))
  | .tuple, .tuple xs => some (.d (.tuple xs))
  | .sum, .list xs => (intsL xs).map fun ns => .d (.int ns.sum)
  | .all, .list xs => (boolsL xs).map fun bs => .d (.bool (bs.all id))
  | .any, .list xs => (boolsL xs).map fun bs => .d (.bool (bs.any id))
  | .max, .list xs => match intsL xs with
    | some (x :: r) => some (.d (.int (maxL x r)))
    | _ => none
  | .min, .list xs => match intsL xs with
    | some (x :: r) => some (.d (.int (minL x r)))
    | _ => none
  | .str, .int i => if i.natAbs.log2 < 1920 then some (.d (.str (toString i))) else none
  | .repr, .bool b => some (.d (.str (if b then "True" else "False")))
  | .repr, .int i => if i.natAbs.log2 < 1920 then some (.d (.str (toString i))) else none
  | _, _ => none
def b2 : B2 → D → D → Option D
  | .max, .int i, .int j => some (.int (if j > i then j else i))
  | .min, .int i, .int j => some (.int (if j < i then j else i))
  | _, _, _ => none
def itemsOf : D → Option (List D)
  | .list xs => some xs
  | .tuple xs => some xs
  | .str z => some (z.cps.toList.map fun c => .str ⟨#[c]⟩)
  | _ => none
def listOf : D → Option (List D)
  | .list xs => some xs
  | .tuple xs => some xs
  | _ => none
def rng (lo : Int) : Nat → List D
  | 0 => []
  | n + 1 => .int lo :: rng (lo + 1) n
def small62 (i : Int) : Bool := decide (-P62 ≤ i) && decide (i < P62)
def enumD : Nat → List D → List D
  | _, [] => []
  | i, x :: r => .tuple [.int i, x] :: enumD (i + 1) r
def zipD : List D → List D → List D
  | x :: r, y :: q => .tuple [x, y] :: zipD r q
  | _, _ => []

/-! ### dicts of ints and texts -/
def keyIs : D → D → Bool
  | .int i, .int j => i == j
  | .str x, .str y => x == y
  | _, _ => false
def isKey : D → Bool
  | .int _ => true
  | .str _ => true
  | _ => false
def lookD : List (D × D) → D → Option D
  | [], _ => none
  | p :: r, k => if keyIs p.1 k then some p.2 else lookD r k
def putD (ps : List (D × D)) (k v : D) : List (D × D) :=
  if (ps.any fun p => keyIs p.1 k) = true then ps.map (fun p => if keyIs p.1 k = true then (p.1, v) else p) else ps ++ [(k, v)]
/-- what d.get(k) finds -/
def getD1 : D → D → Option (Option D)
  | .dict ps, k => if isKey k && ps.all (fun p => isKey p.1) && !ps.isEmpty then some (lookD ps k) else none
  | _, _ => none
def dispD (ks : List Const) (vs : List D) : Option (List (D × D)) :=
  if ks.length = vs.length ∧ ks.length ≤ 15 ∧ ks ≠ [] ∧ (ks.all fun c => match c with | .int _ => true | .str _ => true | _ => false) then
    some ((ks.zip vs).foldl (fun ps p => match p.1 with
      | .int i => putD ps (.int i) p.2
      | .str x => putD ps (.str x) p.2
      | _ => ps) [])
  else none

/-! ### the tree -/
inductive IT where
  | n (i : Nat) (m : Bool)
  | t (l : List IT)
mutual
inductive IE where
  | cst (d : Const)
  | var (i : Nat)
  | glob (x : Str) (d : D)
  | bin (o : Bo) (a b : IE)
  | neg (a : IE)
  | cmp (o : Co) (a b : IE)
  | chn (o p : Co) (a b c : IE)
  | not (a : IE)
  | and (a b : IE)
  | or (a b : IE)
  | ife (c a b : IE)
  | tup (l : IA)
  | lst (l : IA)
  | idx (a i : IE)
  | slc (a : IE) (lo hi : IO)
  | isi (a : IE) (t : Ty)
  | call (f : Nat) (x : Str) (l : IA)
  | bl1 (b : B1) (a : IE)
  | bl2 (b : B2) (a c : IE)
  | dsp (ks : List Const) (l : IA)
  | mg1 (o k : IE)
  | mg2 (o k d : IE)
  | cm1 (own : List (Str × Nat)) (elt : IE) (t : IT) (it : II) (c : IO)
  | cm2 (own : List (Str × Nat)) (own2 : List Nat) (elt : IE) (t : IT) (it : II) (c : IO) (t2 : IT) (it2 : II) (c2 : IO)
inductive IA where
  | nil
  | cons (a : IE) (r : IA)
  | lend (i : Nat) (r : IA)
inductive IO where
  | no
  | yes (a : IE)
inductive II where
  | val (a : IE)
  | rg1 (a : IE)
  | rg2 (a b : IE)
  | enm (a : IE)
  | zip (a b : IE)
end
mutual
inductive IS where
  | asg (t : IT) (e : IE)
  | asp (t : List IT) (l : IA)
  | sto (i : Nat) (k e : IE)
  | app (i : Nat) (e : IE)
  | ex (e : IE)
  | ret (e : IE)
  | retN
  | ifs (c : IE) (a b : IB)
  | whl (c : IE) (a : IB)
  | fr (t : IT) (it : II) (a : IB)
  | pas | brk | cnt
  | rse (c : Str)
inductive IB where
  | nil
  | cons (a : IS) (r : IB)
end

/-! ### stores -/
def asn1 (i : Nat) (m : Bool) (v : TV) (r : Env) : Res Unit :=
  match r[i]? with
  | some (.bor _) => .stuck
  | none => .stuck
  | some _ => if m then
      match v with
      | .f d => .ok () (r.set i (.own d))
      | _ => .stuck
    else match solid r v with
      | some (d, r') => .ok () (r'.set i (.val d))
      | none => .stuck
mutual
def asn : IT → TV → Env → Res Unit
  | .n i m, v, r => asn1 i m v r
  | .t l, v, r => match deref r v with
    | some (.tuple xs) => asnL l xs r
    | _ => .stuck
def asnL : List IT → List D → Env → Res Unit
  | [], [], r => .ok () r
  | t :: ts, x :: xs, r => (asn t (.d x) r).bind fun _ r' => asnL ts xs r'
  | _, _, _ => .stuck
end
def asnP : List IT → List TV → Env → Res Unit
  | [], [], r => .ok () r
  | t :: ts, x :: xs, r => (asn t x r).bind fun _ r' => asnP ts xs r'
  | _, _, _ => .stuck
/-- the object of a slot is changed -/
def setAt (r : Env) (i : Nat) (d : D) : Env :=
  match r[i]? with
  | some (.own _) => r.set i (.own d)
  | some (.bor _) => r.set i (.bor d)
  | _ => r
def mutAt (r : Env) (i : Nat) : Option D :=
  match r[i]? with
  | some (.own d) => some d
  | some (.bor d) => some d
  | _ => none

/-! ### loops -/
def forL (f : D → Env → Res Fl) : List D → Env → Res Fl
  | [], r => .ok .nx r
  | x :: xs, r => match f x r with
    | .ok .nx r' => forL f xs r'
    | .ok .cnt r' => forL f xs r'
    | .ok .brk r' => .ok .nx r'
    | .ok (.ret b v) r' => .ok (.ret b v) r'
    | .exc c d r' => .exc c d r'
    | .stuck => .stuck
def whileN (c : Env → Res Bool) (f : Env → Res Fl) : Nat → Env → Res Fl
  | 0, _ => .stuck
  | n + 1, r => (c r).bind fun t r1 => match t with
    | false => .ok .nx r1
    | true => match f r1 with
      | .ok .nx r' => whileN c f n r'
      | .ok .cnt r' => whileN c f n r'
      | .ok .brk r' => .ok .nx r'
      | .ok (.ret b v) r' => .ok (.ret b v) r'
      | .exc c d r' => .exc c d r'
      | .stuck => .stuck
def wipeE : List Nat → Env → Env
  | [], r => r
  | i :: l, r => (wipeE l r).set i .un
/-- the slots of a block's own names, as they were -/
def backE (r0 : Env) : List Nat → Env → Env
  | [], r => r
  | i :: l, r => (backE r0 l r).set i (r0.getD i .un)
def compL (f : D → Env → Res (List D)) : List D → Env → Res (List D)
  | [], r => .ok [] r
  | x :: xs, r => match f x r with
    | .ok ys r' => match compL f xs r' with
      | .ok zs r'' => .ok (ys ++ zs) r''
      | _ => .stuck
    | _ => .stuck

/-! ### calls -/
inductive Ar where
  | v (d : D) | l (i : Nat)
def lends : List Ar → List Nat
  | [] => []
  | .v _ :: r => lends r
  | .l i :: r => i :: lends r
def argS (r : Env) : Ar → Option Sl
  | .v d => some (.val d)
  | .l i => (mutAt r i).map .bor
def argsS (r : Env) : List Ar → Option (List Sl)
  | [] => some []
  | a :: l => (argS r a).bind fun s => (argsS r l).map (s :: ·)
def outsE : List Nat → List D → Env → Option Env
  | [], [], r => some r
  | i :: l, d :: ds, r => outsE l ds (setAt r i d)
  | _, _, _ => none
def doCall (call : Nat → List Sl → CR) (f : Nat) (as : List Ar) (r : Env) : Res TV :=
  match argsS r as with
  | none => .stuck
  | some ss => if (lends as).Nodup then
      match call f ss with
      | .ok fr v outs => match outsE (lends as) outs r with
        | some r' => .ok (if fr then .f v else .d v) r'
        | none => .stuck
      | .exc c d => if lends as = [] then .exc c d r else .stuck
      | .stuck => .stuck
    else .stuck

def cstD : Const → Option D
  | .none => some .none
  | .bool b => some (.bool b)
  | .int i => some (.int i)
  | .str s => some (.str s)
  | _ => none
def optI (o : Option D) : Option (Option Int) :=
  match o with
  | none => some none
  | some (.int i) => some (some i)
  | _ => none

/-! ### expressions -/
section
variable (call : Nat → List Sl → CR)
/-- a value's trees, and the test by its truth -/
def tst (f : Env → Res TV) : (Env → Res TV) × (Env → Res Bool) :=
  (f, fun r => (f r).bind fun x r1 => match deref r1 x with
    | some u => .of (truth u) r1
    | none => .stuck)
mutual
def ev : IE → (Env → Res TV) × (Env → Res Bool)
  | .cst d => tst fun r => match cstD d with
    | some v => .ok (.d v) r
    | none => .stuck
  | .var i => tst fun r => match r[i]? with
    | some (.val d) => .ok (.d d) r
    | some (.own _) => .ok (.s i) r
    | some (.bor _) => .ok (.s i) r
    | _ => .stuck
  | .glob _ d => tst fun r => .ok (.d d) r
  | .bin o a b => tst fun r => ((ev a).1 r).bind fun x r1 => ((ev b).1 r1).bind fun y r2 =>
      match deref r2 x, deref r2 y with
      | some u, some v => .of (bop o u v) r2
      | _, _ => .stuck
  | .neg a => tst fun r => ((ev a).1 r).bind fun x r1 => match x with
      | .d (.int i) => .ok (.d (.int (-i))) r1
      | _ => .stuck
  | .cmp o a b => tst fun r => ((ev a).1 r).bind fun x r1 => ((ev b).1 r1).bind fun y r2 =>
      match deref r2 x, deref r2 y with
      | some u, some v => .of ((cop o u v).map fun t => .d (.bool t)) r2
      | _, _ => .stuck
  | .chn o p a b c => tst fun r => ((ev a).1 r).bind fun x r1 => ((ev b).1 r1).bind fun y r2 =>
      match deref r2 x, deref r2 y with
      | some u, some v => match cop o u v with
        | some true => ((ev c).1 r2).bind fun z r3 => match deref r3 y, deref r3 z with
          | some v', some w => .of ((cop p v' w).map fun t => .d (.bool t)) r3
          | _, _ => .stuck
        | some false => .ok (.d (.bool false)) r2
        | none => .stuck
      | _, _ => .stuck
  | .not a => (fun r => ((tst (ev a).1).2 r).bind fun t r1 => .ok (.d (.bool (!t))) r1, fun r => ((ev a).2 r).bind fun t r1 => .ok (!t) r1)
  | .and a b => (fun r => ((ev a).1 r).bind fun x r1 => match x with
      | .d (.bool true) => (ev b).1 r1
      | .d (.bool false) => .ok (.d (.bool false)) r1
      | _ => .stuck, fun r => ((ev a).2 r).bind fun t r1 => match t with
      | true => (ev b).2 r1
      | false => .ok false r1)
  | .or a b => (fun r => ((ev a).1 r).bind fun x r1 => match x with
      | .d (.bool true) => .ok (.d (.bool true)) r1
      | .d (.bool false) => (ev b).1 r1
      | _ => .stuck, fun r => ((ev a).2 r).bind fun t r1 => match t with
      | true => .ok true r1
      | false => (ev b).2 r1)
  | .ife c a b => (fun r => ((ev c).2 r).bind fun t r1 => match t with
      | true => (ev a).1 r1
      | false => (ev b).1 r1, fun r => ((ev c).2 r).bind fun t r1 => match t with
      | true => (ev a).2 r1
      | false => (ev b).2 r1)
  | .tup l => tst fun r => (evA l r).bind fun xs r1 => if xs.length ≤ SZ then .ok (.d (.tuple xs)) r1 else .stuck
  | .lst l => tst fun r => (evA l r).bind fun xs r1 => if xs.length ≤ SZ then .ok (.f (.list xs)) r1 else .stuck
  | .idx a i => tst fun r => ((ev a).1 r).bind fun x r1 => ((ev i).1 r1).bind fun y r2 =>
      match deref r2 x, deref r2 y with
      | some u, some v => .of ((idx u v).map .d) r2
      | _, _ => .stuck
  | .slc a lo hi => tst fun r => ((ev a).1 r).bind fun x r1 => (evO lo r1).bind fun l r2 => (evO hi r2).bind fun h r3 =>
      match deref r3 x, optI l, optI h with
      | some u, some l', some h' => .of (slice l' h' u) r3
      | _, _, _ => .stuck
  | .isi a t => tst fun r => ((ev a).1 r).bind fun x r1 => match deref r1 x with
      | some u => if notDict u = true then .ok (.d (.bool (isTy t u))) r1 else .stuck
      | none => .stuck
  | .call f _ l => tst fun r => (evR l r).bind fun as r1 => doCall call f as r1
  | .bl1 b a => tst fun r => ((ev a).1 r).bind fun x r1 => match deref r1 x with
      | some u => .of (b1 b u) r1
      | none => .stuck
  | .bl2 b a c => tst fun r => ((ev a).1 r).bind fun x r1 => ((ev c).1 r1).bind fun y r2 =>
      match deref r2 x, deref r2 y with
      | some u, some v => .of ((b2 b u v).map .d) r2
      | _, _ => .stuck
  | .dsp ks l => tst fun r => (evA l r).bind fun vs r1 => match dispD ks vs with
      | some ps => .ok (.f (.dict ps)) r1
      | none => .stuck
  | .mg1 o k => tst fun r => ((ev o).1 r).bind fun x r1 => (dictR r1 x).bind fun _ r1 => ((ev k).1 r1).bind fun y r2 =>
      match deref r2 x, deref r2 y with
      | some u, some v => .of ((getD1 u v).map fun t => .d (t.getD .none)) r2
      | _, _ => .stuck
  | .mg2 o k d => tst fun r => ((ev o).1 r).bind fun x r1 => (dictR r1 x).bind fun _ r1 => ((ev k).1 r1).bind fun y r2 => ((ev d).1 r2).bind fun z r3 => (solidR r3 z).bind fun w r4 =>
      match deref r4 x, deref r4 y with
      | some u, some v => .of ((getD1 u v).map fun t => .d (t.getD w)) r4
      | _, _ => .stuck
  | .cm1 own elt t it c => tst fun r => (evI it r).bind fun xs r1 =>
      match compL (fun x r2 => (asn t (.d x) (wipeE (own.map (·.2)) r2)).bind fun _ r3 =>
          (evT c r3).bind fun ok r4 => match ok with
            | true => ((ev elt).1 r4).bind fun y r5 => (solidR r5 y).bind fun v r6 => .ok [v] r6
            | false => .ok [] r4) xs r1 with
      | .ok ys r2 => if ys.length ≤ SZ then .ok (.f (.list ys)) (backE r1 (own.map (·.2)) r2) else .stuck
      | _ => .stuck
  | .cm2 own own2 elt t it c t2 it2 c2 => tst fun r => (evI it r).bind fun xs r1 =>
      match compL (fun x r2 => (asn t (.d x) (wipeE (own.map (·.2)) r2)).bind fun _ r3 =>
          (evT c r3).bind fun ok r4 => match ok with
            | true => (evI it2 r4).bind fun zs r5 =>
              compL (fun z r6 => (asn t2 (.d z) (wipeE own2 r6)).bind fun _ r7 =>
                (evT c2 r7).bind fun ok2 r8 => match ok2 with
                  | true => ((ev elt).1 r8).bind fun y r9 => (solidR r9 y).bind fun v r10 => .ok [v] r10
                  | false => .ok [] r8) zs r5
            | false => .ok [] r4) xs r1 with
      | .ok ys r2 => if ys.length ≤ SZ then .ok (.f (.list ys)) (backE r1 (own.map (·.2)) r2) else .stuck
      | _ => .stuck
def evA : IA → Env → Res (List D)
  | .nil, r => .ok [] r
  | .cons a l, r => ((ev a).1 r).bind fun x r1 => (solidR r1 x).bind fun v r2 => (evA l r2).bind fun vs r3 => .ok (v :: vs) r3
  | .lend _ _, _ => .stuck
/-- arguments of a call of the text's own def -/
def evR : IA → Env → Res (List Ar)
  | .nil, r => .ok [] r
  | .cons a l, r => ((ev a).1 r).bind fun x r1 => (solidR r1 x).bind fun v r2 => (evR l r2).bind fun vs r3 => .ok (.v v :: vs) r3
  | .lend i l, r => match mutAt r i with
    | some _ => (evR l r).bind fun vs r1 => .ok (.l i :: vs) r1
    | none => .stuck
/-- values, new objects left new -/
def evF : IA → Env → Res (List TV)
  | .nil, r => .ok [] r
  | .cons a l, r => ((ev a).1 r).bind fun x r1 => match x with
      | .f v => (evF l r1).bind fun vs r3 => .ok (.f v :: vs) r3
      | x => (solidR r1 x).bind fun v r2 => (evF l r2).bind fun vs r3 => .ok (.d v :: vs) r3
  | .lend _ _, _ => .stuck
def evO : IO → Env → Res (Option D)
  | .no, r => .ok none r
  | .yes a, r => ((ev a).1 r).bind fun x r1 => match deref r1 x with
      | some u => .ok (some u) r1
      | none => .stuck
def evT : IO → Env → Res Bool
  | .no, r => .ok true r
  | .yes a, r => (ev a).2 r
def evI : II → Env → Res (List D)
  | .val a, r => ((ev a).1 r).bind fun x r1 => (solidR r1 x).bind fun v r2 => .of (itemsOf v) r2
  | .rg1 a, r => ((ev a).1 r).bind fun x r1 => match deref r1 x with
      | some (.int j) => if small62 j then .ok (rng 0 j.toNat) r1 else .stuck
      | _ => .stuck
  | .rg2 a b, r => ((ev a).1 r).bind fun x r1 => ((ev b).1 r1).bind fun y r2 => match deref r2 x, deref r2 y with
      | some (.int i), some (.int j) => if small62 i && small62 j then .ok (rng i (j - i).toNat) r2 else .stuck
      | _, _ => .stuck
  | .enm a, r => ((ev a).1 r).bind fun x r1 => (solidR r1 x).bind fun v r2 => match listOf v with
      | some xs => .ok (enumD 0 xs) r2
      | none => .stuck
  | .zip a b, r => ((ev a).1 r).bind fun x r1 => (solidR r1 x).bind fun v r2 => ((ev b).1 r2).bind fun y r3 => (solidR r3 y).bind fun w r4 =>
      match listOf v, listOf w with
      | some xs, some ys => .ok (zipD xs ys) r4
      | _, _ => .stuck
end
abbrev evE (e : IE) (r : Env) : Res TV := (ev call e).1 r
abbrev evC (e : IE) (r : Env) : Res Bool := (ev call e).2 r

/-! ### statements -/
variable (W : Nat)
mutual
def evS : IS → Env → Res Fl
  | .asg t e, r => (evE call e r).bind fun x r1 => (asn t x r1).bind fun _ r2 => .ok .nx r2
  | .asp ts l, r => (evF call l r).bind fun xs r1 => if xs.length ≤ SZ then (asnP ts xs r1).bind fun _ r2 => .ok .nx r2 else .stuck
  | .sto i k e, r => (evE call e r).bind fun x r1 => (solidR r1 x).bind fun v r2 => match mutAt r2 i with
      | some _ => (evE call k r2).bind fun y r3 =>
        match mutAt r3 i, deref r3 y with
        | some (.list xs), some (.int j) => match ixN xs.length j with
          | some m => .ok .nx (setAt r3 i (.list (xs.set m v)))
          | none => .stuck
        | _, _ => .stuck
      | none => .stuck
  | .app i e, r => match mutAt r i with
    | some (.list _) => (evE call e r).bind fun x r1 => (solidR r1 x).bind fun v r2 => match mutAt r2 i with
      | some (.list xs) => if xs.length < SZ then .ok .nx (setAt r2 i (.list (xs ++ [v]))) else .stuck
      | _ => .stuck
    | _ => .stuck
  | .ex e, r => (evE call e r).bind fun _ r1 => .ok .nx r1
  | .ret e, r => (evE call e r).bind fun x r1 => match x with
      | .d v => .ok (.ret false v) r1
      | .f v => .ok (.ret true v) r1
      | .s i => match r1[i]? with
        | some (.own d) => .ok (.ret true d) r1
        | _ => .stuck
  | .retN, r => .ok (.ret false .none) r
  | .ifs c a b, r => (evC call c r).bind fun t r1 => match t with
      | true => evB a r1
      | false => evB b r1
  | .whl c a, r => whileN (fun r => evC call c r) (fun r => evB a r) W r
  | .fr t it a, r => (evI call it r).bind fun xs r1 => forL (fun x r2 => (asn t (.d x) r2).bind fun _ r3 => evB a r3) xs r1
  | .pas, r => .ok .nx r
  | .brk, r => .ok .brk r
  | .cnt, r => .ok .cnt r
  | .rse c, r => .exc c .none r
def evB : IB → Env → Res Fl
  | .nil, r => .ok .nx r
  | .cons a l, r => match evS a r with
    | .ok .nx r1 => evB l r1
    | o => o
end
end

/-- a def: its name, its names by slot, how many of them are parameters, its body -/
structure Df where
  name : Str
  names : List Str
  np : Nat
  body : IB

def outsOf : List Sl → Env → Option (List D)
  | [], _ => some []
  | .bor _ :: l, .bor d :: r => (outsOf l r).map (d :: ·)
  | .bor _ :: _, _ => none
  | _ :: l, _ :: r => outsOf l r
  | _ :: _, [] => none
def endCall (as : List Sl) (b : Bool) (v : D) (r : Env) : CR :=
  match outsOf as r with
  | some os => .ok b v os
  | none => .stuck
def runDef (call : Nat → List Sl → CR) (W : Nat) (df : Df) (as : List Sl) : CR :=
  if as.length = df.np then
    match evB call W df.body (as ++ List.replicate (df.names.length - df.np) .un) with
    | .ok .nx r => endCall as false .none r
    | .ok (.ret b v) r => endCall as b v r
    | .ok _ _ => .stuck
    | .exc c d _ => .exc c d
    | .stuck => .stuck
  else .stuck
def callN (P : List Df) (W : Nat) : Nat → Nat → List Sl → CR
  | 0, _, _ => .stuck
  | n + 1, f, as => match P[f]? with
    | some df => runDef (callN P W n) W df as
    | none => .stuck
end Ev


set_option linter.all false
set_option maxHeartbeats 1000000
/-! What the evaluator's states say of the heap. -/
namespace Ev
open PySem PySem.Spec PyProof.Rows L2

abbrev Fg := PySem.W.Frag
def keyD : Key → D
  | .inl i => .int i
  | .inr x => .str x
def keyTD (l : List Key) : D := .tuple (l.map keyD)

mutual
/-- the value v, in the part F of the heap that nothing changes any more, is the datum -/
inductive Rp (K : Fg) (F : Hp) : V → D → Prop
  | non : Rp K F .non .none
  | bl (b : Bool) : Rp K F (.bl b) (.bool b)
  | int (i : Int) : Rp K F (.int i) (.int i)
  | str (x : Str) : Rp K F (.str x) (.str x)
  | lst {a : Addr} {xs : List V} {ds : List D} : F a = some (.lst xs) → RpL K F xs ds → Rp K F (.ref a) (.list ds)
  | tup {a : Addr} {xs : List V} {ds : List D} : SqT K F a xs → RpL K F xs ds → Rp K F (.ref a) (.tuple ds)
  | dic {a : Addr} {kvs : List (Key × V)} {ps : List (D × D)} : F a = some (.dK kvs) → RpK K F kvs ps → Rp K F (.ref a) (.dict ps)
  | scr {a : Addr} {xs : List V} {ds : List D} : SqL K F a xs → RpL K F xs ds → Rp K F (.ref a) (.dict [(.none, .list ds)])
  | dit {a : Addr} {kvs : List (List Key × V)} {ps : List (D × D)} : F a = some (.dT kvs) → RpT K F kvs ps → Rp K F (.ref a) (.dict ps)
inductive RpL (K : Fg) (F : Hp) : List V → List D → Prop
  | nil : RpL K F [] []
  | cons {v : V} {vs : List V} {d : D} {ds : List D} : Rp K F v d → RpL K F vs ds → RpL K F (v :: vs) (d :: ds)
inductive RpK (K : Fg) (F : Hp) : List (Key × V) → List (D × D) → Prop
  | nil : RpK K F [] []
  | cons {k : Key} {v : V} {d : D} {kvs : List (Key × V)} {ps : List (D × D)} : Rp K F v d → RpK K F kvs ps → RpK K F ((k, v) :: kvs) ((keyD k, d) :: ps)
inductive RpT (K : Fg) (F : Hp) : List (List Key × V) → List (D × D) → Prop
  | nil : RpT K F [] []
  | cons {k : List Key} {v : V} {d : D} {kvs : List (List Key × V)} {ps : List (D × D)} : Rp K F v d → RpT K F kvs ps → RpT K F ((k, v) :: kvs) ((keyTD k, d) :: ps)
end
/-- the heap's part is within -/
def Sub (F H : Hp) : Prop := ∀ a o, F a = some o → H a = some o
theorem Sub.refl (H : Hp) : Sub H H := fun _ _ h => h
theorem Sub.trans {F G H : Hp} (a : Sub F G) (b : Sub G H) : Sub F H := fun c o h => b c o (a c o h)
theorem Sub.rd {F H : Hp} (s : Sub F H) {a : Addr} {u : HO} (r : Rd F a u) : Rd H a u := by
  rcases r with r | ⟨o, r⟩
  · exact .inl (s _ _ r)
  · exact .inr ⟨o, s _ _ r⟩
theorem Sub.sql {K : Fg} {F H : Hp} (s : Sub F H) {a : Addr} {xs : List V} (r : SqL K F a xs) : SqL K H a xs := by
  rcases r with r | r
  · exact .inl (s.rd r)
  · exact .inr r
theorem Sub.sqt {K : Fg} {F H : Hp} (s : Sub F H) {a : Addr} {xs : List V} (r : SqT K F a xs) : SqT K H a xs := by
  rcases r with r | r
  · exact .inl (s.rd r)
  · exact .inr r
mutual
theorem Rp.mono {K : Fg} {F H : Hp} (s : Sub F H) : ∀ {v : V} {d : D}, Rp K F v d → Rp K H v d
  | _, _, .non => .non
  | _, _, .bl b => .bl b
  | _, _, .int i => .int i
  | _, _, .str x => .str x
  | _, _, .lst h r => .lst (s _ _ h) (RpL.mono s r)
  | _, _, .tup h r => .tup (s.sqt h) (RpL.mono s r)
  | _, _, .dic h r => .dic (s _ _ h) (RpK.mono s r)
  | _, _, .scr h r => .scr (s.sql h) (RpL.mono s r)
  | _, _, .dit h r => .dit (s _ _ h) (RpT.mono s r)
theorem RpL.mono {K : Fg} {F H : Hp} (s : Sub F H) : ∀ {v : List V} {d : List D}, RpL K F v d → RpL K H v d
  | _, _, .nil => .nil
  | _, _, .cons h r => .cons (Rp.mono s h) (RpL.mono s r)
theorem RpK.mono {K : Fg} {F H : Hp} (s : Sub F H) : ∀ {v : List (Key × V)} {d : List (D × D)}, RpK K F v d → RpK K H v d
  | _, _, .nil => .nil
  | _, _, .cons h r => .cons (Rp.mono s h) (RpK.mono s r)
theorem RpT.mono {K : Fg} {F H : Hp} (s : Sub F H) : ∀ {v : List (List Key × V)} {d : List (D × D)}, RpT K F v d → RpT K H v d
  | _, _, .nil => .nil
  | _, _, .cons h r => .cons (Rp.mono s h) (RpT.mono s r)
end
theorem RpL.length {K : Fg} {F : Hp} : ∀ {v : List V} {d : List D}, RpL K F v d → v.length = d.length
  | _, _, .nil => rfl
  | _, _, .cons _ r => by rw [List.length_cons, List.length_cons, RpL.length r]
theorem RpL.get {K : Fg} {F : Hp} : ∀ {v : List V} {d : List D}, RpL K F v d → ∀ (i : Nat) (x : D), d[i]? = some x → ∃ y, v[i]? = some y ∧ Rp K F y x
  | _, _, .nil, i, x, e => by simp at e
  | _, _, .cons h r, 0, x, e => by
    simp only [List.getElem?_cons_zero, Option.some.injEq] at e
    subst e
    exact ⟨_, by simp, h⟩
  | _, _, .cons h r, i + 1, x, e => by
    simp only [List.getElem?_cons_succ] at e
    obtain ⟨y, h1, h2⟩ := RpL.get r i x e
    exact ⟨y, by simpa using h1, h2⟩
theorem RpL.append {K : Fg} {F : Hp} : ∀ {v w : List V} {d e : List D}, RpL K F v d → RpL K F w e → RpL K F (v ++ w) (d ++ e)
  | _, _, _, _, .nil, r => r
  | _, _, _, _, .cons h r, q => .cons h (RpL.append r q)
theorem RpL.take {K : Fg} {F : Hp} : ∀ {v : List V} {d : List D} (n : Nat), RpL K F v d → RpL K F (v.take n) (d.take n)
  | _, _, 0, _ => by simp only [List.take_zero]; exact .nil
  | _, _, n + 1, .nil => .nil
  | _, _, n + 1, .cons h r => .cons h (RpL.take n r)
theorem RpL.drop {K : Fg} {F : Hp} : ∀ {v : List V} {d : List D} (n : Nat), RpL K F v d → RpL K F (v.drop n) (d.drop n)
  | _, _, 0, r => r
  | _, _, n + 1, .nil => .nil
  | _, _, n + 1, .cons h r => RpL.drop n r
theorem RpL.rep {K : Fg} {F : Hp} {v : List V} {d : List D} (h : RpL K F v d) : ∀ n, RpL K F (List.replicate n v).flatten (List.replicate n d).flatten
  | 0 => .nil
  | n + 1 => by
    rw [List.replicate_succ, List.replicate_succ, List.flatten_cons, List.flatten_cons]
    exact h.append (RpL.rep h n)
theorem RpL.set {K : Fg} {F : Hp} : ∀ {v : List V} {d : List D} (i : Nat) {x : V} {y : D}, RpL K F v d → Rp K F x y → RpL K F (v.set i x) (d.set i y)
  | _, _, _, _, _, .nil, _ => .nil
  | _, _, 0, _, _, .cons _ r, q => .cons q r
  | _, _, i + 1, _, _, .cons h r, q => .cons h (RpL.set i r q)
theorem RpL.nil_iff {K : Fg} {F : Hp} {v : List V} {d : List D} (h : RpL K F v d) : v.isEmpty = d.isEmpty := by
  cases h <;> rfl
theorem RpL.of {K : Fg} {F : Hp} {α : Type} (f : α → V) (g : α → D) (h : ∀ a, Rp K F (f a) (g a)) : ∀ l : List α, RpL K F (l.map f) (l.map g)
  | [] => .nil
  | a :: l => .cons (h a) (RpL.of f g h l)

/-- the object o is the datum, its parts in F -/
def ObR (K : Fg) (F : Hp) (o : HO) : D → Prop
  | .list ds => ∃ xs, o = .lst xs ∧ RpL K F xs ds
  | .dict ps => (∃ kvs, o = .dK kvs ∧ RpK K F kvs ps) ∨ (∃ kvs, o = .dT kvs ∧ RpT K F kvs ps)
  | _ => False
theorem ObR.mono {K : Fg} {F H : Hp} (s : Sub F H) {o : HO} {d : D} (h : ObR K F o d) : ObR K H o d := by
  cases d with
  | list ds => obtain ⟨xs, e, r⟩ := h; exact ⟨xs, e, r.mono s⟩
  | dict ps =>
    rcases h with ⟨kvs, e, r⟩ | ⟨kvs, e, r⟩
    · exact .inl ⟨kvs, e, r.mono s⟩
    · exact .inr ⟨kvs, e, r.mono s⟩
  | _ => exact h
theorem ObR.rp {K : Fg} {F : Hp} {o : HO} {d : D} {a : Addr} (h : ObR K F o d) (e : F a = some o) : Rp K F (.ref a) d := by
  cases d with
  | list ds =>
    obtain ⟨xs, e1, r⟩ := h
    subst e1
    exact .lst e r
  | dict ps =>
    rcases h with ⟨kvs, e1, r⟩ | ⟨kvs, e1, r⟩
    · subst e1; exact .dic e r
    · subst e1; exact .dit e r
  | none => exact h.elim
  | bool b => exact h.elim
  | int i => exact h.elim
  | str s => exact h.elim
  | tuple l => exact h.elim

/-- the frame's own (or lent) object at a -/
def Own (σ : L2.St) (r : Env) (a : Addr) : Prop := ∃ (i : Nat) (d : D), (r[i]? = some (.own d) ∨ r[i]? = some (.bor d)) ∧ σ[i]? = some (some (.ref a))
/-- the def's entry: its heap, where the lent objects stand by slot -/
structure Bs where
  h : Hp
  l : Nat → Addr → Prop
/-- B: the heap at the def's entry; F: the part that stays; H: the heap -/
structure StR (K : Fg) (B : Bs) (F H : Hp) (σ : L2.St) (r : Env) : Prop where
  sub : Sub F H
  dom : ∀ a, B.h a ≠ none → H a ≠ none
  len : σ.length = r.length
  val : ∀ (i : Nat) (d : D), r[i]? = some (.val d) → ∃ x, σ[i]? = some (some x) ∧ Rp K F x d
  obj : ∀ (i : Nat) (d : D), (r[i]? = some (.own d) ∨ r[i]? = some (.bor d)) → ∃ a o, σ[i]? = some (some (.ref a)) ∧ H a = some o ∧ F a = none ∧ ObR K F o d
  new : ∀ (i : Nat) (d : D) (a : Addr), r[i]? = some (.own d) → σ[i]? = some (some (.ref a)) → B.h a = none
  lnt : ∀ (i : Nat) (d : D) (a : Addr), r[i]? = some (.bor d) → σ[i]? = some (some (.ref a)) → B.l i a
  inj : ∀ (i j : Nat) (d e : D) (a : Addr), (r[i]? = some (.own d) ∨ r[i]? = some (.bor d)) → (r[j]? = some (.own e) ∨ r[j]? = some (.bor e)) → σ[i]? = some (some (.ref a)) → σ[j]? = some (some (.ref a)) → i = j

/-- from one state to a later one, the slots' values the same -/
structure Post (K : Fg) (B : Bs) (σ : L2.St) (r : Env) (F H : Hp) (r' : Env) (F' H' : Hp) : Prop where
  st : StR K B F' H' σ r'
  mono : Sub F F'
  frame : ∀ a o, H a = some o → ¬ Own σ r a → H' a = some o
  dom : ∀ a, H a ≠ none → H' a ≠ none
  fr : ∀ a, F' a ≠ none → F a ≠ none ∨ H a = none ∨ Own σ r a
  own : ∀ a, Own σ r' a → Own σ r a
theorem Post.refl {K : Fg} {B : Bs} {σ : L2.St} {r : Env} {F H : Hp} (s : StR K B F H σ r) : Post K B σ r F H r F H :=
  ⟨s, Sub.refl _, fun _ _ h _ => h, fun _ h => h, fun _ h => .inl h, fun _ h => h⟩
theorem Post.trans {K : Fg} {B : Bs} {σ : L2.St} {r r1 r2 : Env} {F H F1 H1 F2 H2 : Hp} (a : Post K B σ r F H r1 F1 H1) (b : Post K B σ r1 F1 H1 r2 F2 H2) : Post K B σ r F H r2 F2 H2 where
  st := b.st
  mono := a.mono.trans b.mono
  frame := fun c o h n => b.frame c o (a.frame c o h n) fun q => n (a.own c q)
  dom := fun c h => b.dom c (a.dom c h)
  fr := fun c h => by
    rcases b.fr c h with q | q | q
    · exact a.fr c q
    · exact .inr (.inl (Classical.byContradiction fun n => a.dom c n q))
    · exact .inr (.inr (a.own c q))
  own := fun c h => a.own c (b.own c h)

/-- what an expression gives -/
def TvR (K : Fg) (H0 : Hp) (σ : L2.St) (F H : Hp) : TV → V → Prop
  | .d v, x => Rp K F x v
  | .f v, x => ∃ p o, x = .ref p ∧ H p = some o ∧ F p = none ∧ ObR K F o v ∧ H0 p = none
  | .s i, x => σ[i]? = some (some x)
theorem StR.ownH {K : Fg} {B : Bs} {F H : Hp} {σ : L2.St} {r : Env} (s : StR K B F H σ r) {a : Addr} (h : Own σ r a) : ∃ o, H a = some o ∧ F a = none := by
  obtain ⟨i, d, hr, e⟩ := h
  obtain ⟨b, o, e1, e2, e3, _⟩ := s.obj i d hr
  rw [e] at e1
  cases e1
  exact ⟨o, e2, e3⟩
theorem TvR.keep {K : Fg} {B : Bs} {H0 : Hp} {σ : L2.St} {r r1 : Env} {F H F1 H1 : Hp} {t : TV} {x : V} (h : TvR K H0 σ F H t x) (p : Post K B σ r F H r1 F1 H1) (h0 : ∀ a, Own σ r a → H0 a ≠ none) : TvR K H0 σ F1 H1 t x := by
  cases t with
  | d v => exact Rp.mono p.mono h
  | s i => exact h
  | f v =>
    obtain ⟨q, o, e, e1, e2, e3, e4⟩ := h
    have no : ¬ Own σ r q := fun z => h0 q z e4
    refine ⟨q, o, e, p.frame q o e1 no, ?_, e3.mono p.mono, e4⟩
    cases z : F1 q with
    | none => rfl
    | some u =>
      rcases p.fr q (by rw [z]; simp) with w | w | w
      · exact absurd e2 w
      · rw [e1] at w; cases w
      · exact absurd w no
/-- read now -/
theorem deref_rp {K : Fg} {B : Bs} {H0 : Hp} {σ : L2.St} {r : Env} {F H : Hp} {t : TV} {x : V} {d : D} (s : StR K B F H σ r) (h : TvR K H0 σ F H t x) (e : deref r t = some d) : Rp K H x d := by
  cases t with
  | d v =>
    cases (show some v = some d from e)
    exact Rp.mono s.sub h
  | f v =>
    cases (show some v = some d from e)
    obtain ⟨p, o, e0, e1, _, e3, _⟩ := h
    subst e0
    exact (e3.mono s.sub).rp e1
  | s i =>
    have h : σ[i]? = some (some x) := h
    have ob : ∀ c, (r[i]? = some (.own c) ∨ r[i]? = some (.bor c)) → Rp K H x c := fun c hc => by
      obtain ⟨a, o, e1, e2, _, e4⟩ := s.obj i c hc
      rw [h] at e1
      cases e1
      exact (e4.mono s.sub).rp e2
    unfold deref at e
    simp only at e
    split at e
    · rename_i c hc
      cases e
      obtain ⟨y, e1, e2⟩ := s.val i _ hc
      rw [h] at e1
      cases e1
      exact e2.mono s.sub
    · rename_i c hc
      cases e
      exact ob _ (.inl hc)
    · rename_i c hc
      cases e
      exact ob _ (.inr hc)
    · cases e

theorem upd_sub {F H : Hp} {p : Addr} {o : HO} (s : Sub F H) (e : H p = some o) : Sub (upd F p o) H := fun a u h => by
  by_cases q : a = p
  · subst q
    rw [upd_same] at h
    cases h
    exact e
  · rw [upd_ne q] at h
    exact s a u h
theorem sub_upd {F : Hp} {p : Addr} {o : HO} (e : F p = none) : Sub F (upd F p o) := fun a u h => by
  rw [upd_ne (ne_of_none h e)]
  exact h
theorem upd_some {F : Hp} {p a : Addr} {o : HO} (h : upd F p o a ≠ none) : a = p ∨ F a ≠ none := by
  by_cases q : a = p
  · exact .inl q
  · rw [upd_ne q] at h
    exact .inr h
/-- a new object is given away: it stays as it is from now on -/
theorem freeze {K : Fg} {B : Bs} {H0 : Hp} {σ : L2.St} {r : Env} {F H : Hp} {p : Addr} {o : HO} (s : StR K B F H σ r) (e : H p = some o) (n : F p = none) (no : ¬ Own σ r p) :
    StR K B (upd F p o) H σ r where
  sub := upd_sub s.sub e
  dom := s.dom
  len := s.len
  val := fun i d h => by
    obtain ⟨x, e1, e2⟩ := s.val i d h
    exact ⟨x, e1, e2.mono (sub_upd n)⟩
  obj := fun i d h => by
    obtain ⟨a, u, e1, e2, e3, e4⟩ := s.obj i d h
    refine ⟨a, u, e1, e2, ?_, e4.mono (sub_upd n)⟩
    rw [upd_ne (fun z => no (by subst z; exact ⟨i, d, h, e1⟩))]
    exact e3
  new := s.new
  lnt := s.lnt
  inj := s.inj
theorem getset {α : Type} {l : List α} {i j : Nat} {x y : α} (h : (l.set i x)[j]? = some y) : (j = i ∧ y = x) ∨ (j ≠ i ∧ l[j]? = some y) := by
  rw [List.getElem?_set] at h
  by_cases e : i = j
  · subst e
    rw [if_pos rfl] at h
    split at h
    · cases h; exact .inl ⟨rfl, rfl⟩
    · cases h
  · rw [if_neg e] at h
    exact .inr ⟨fun z => e z.symm, h⟩
/-- an own slot's object is given away -/
theorem freezeS {K : Fg} {B : Bs} {σ : L2.St} {r : Env} {F H : Hp} {i : Nat} {d : D} (s : StR K B F H σ r) (h : r[i]? = some (.own d)) :
    ∃ a o, σ[i]? = some (some (.ref a)) ∧ Rp K (upd F a o) (.ref a) d ∧ Post K B σ r F H (r.set i (.val d)) (upd F a o) H := by
  obtain ⟨a, o, e1, e2, e3, e4⟩ := s.obj i d (.inl h)
  have m := sub_upd (o := o) e3
  have own : ∀ c, Own σ (r.set i (.val d)) c → Own σ r c ∧ c ≠ a := fun c hc => by
    obtain ⟨j, u, hj, ej⟩ := hc
    have hj' : j ≠ i ∧ (r[j]? = some (.own u) ∨ r[j]? = some (.bor u)) := by
      rcases hj with hj | hj
      · rcases getset hj with ⟨_, z⟩ | ⟨z, q⟩
        · cases z
        · exact ⟨z, .inl q⟩
      · rcases getset hj with ⟨_, z⟩ | ⟨z, q⟩
        · cases z
        · exact ⟨z, .inr q⟩
    refine ⟨⟨j, u, hj'.2, ej⟩, fun z => ?_⟩
    subst z
    exact hj'.1 (s.inj j i u d c hj'.2 (.inl h) ej e1)
  refine ⟨a, o, e1, (e4.mono m).rp upd_same, ?_, m, fun _ _ q _ => q, fun _ q => q, fun c q => ?_, fun c q => (own c q).1⟩
  · refine ⟨upd_sub s.sub e2, s.dom, by rw [List.length_set]; exact s.len, fun j u q => ?_, fun j u q => ?_, fun j u c q w => ?_, fun j u c q w => ?_, fun j k u w c q1 q2 w1 w2 => ?_⟩
    · rcases getset q with ⟨z, z2⟩ | ⟨_, q⟩
      · subst z
        cases z2
        exact ⟨_, e1, (e4.mono m).rp upd_same⟩
      · obtain ⟨x, y1, y2⟩ := s.val j u q
        exact ⟨x, y1, y2.mono m⟩
    · have q' : j ≠ i ∧ (r[j]? = some (.own u) ∨ r[j]? = some (.bor u)) := by
        rcases q with q | q
        · rcases getset q with ⟨_, z⟩ | ⟨z, q⟩
          · cases z
          · exact ⟨z, .inl q⟩
        · rcases getset q with ⟨_, z⟩ | ⟨z, q⟩
          · cases z
          · exact ⟨z, .inr q⟩
      obtain ⟨b, v, y1, y2, y3, y4⟩ := s.obj j u q'.2
      refine ⟨b, v, y1, y2, ?_, y4.mono m⟩
      rw [upd_ne (fun z => by subst z; exact q'.1 (s.inj j i u d b q'.2 (.inl h) y1 e1))]
      exact y3
    · rcases getset q with ⟨_, z⟩ | ⟨_, q⟩
      · cases z
      · exact s.new j u c q w
    · rcases getset q with ⟨_, z⟩ | ⟨_, q⟩
      · cases z
      · exact s.lnt j u c q w
    · have f : ∀ {j : Nat} {u : D}, ((r.set i (.val d))[j]? = some (.own u) ∨ (r.set i (.val d))[j]? = some (.bor u)) → (r[j]? = some (.own u) ∨ r[j]? = some (.bor u)) := fun q => by
        rcases q with q | q
        · rcases getset q with ⟨_, z⟩ | ⟨_, q⟩
          · cases z
          · exact .inl q
        · rcases getset q with ⟨_, z⟩ | ⟨_, q⟩
          · cases z
          · exact .inr q
      exact s.inj j k u w c (f q1) (f q2) w1 w2
  · rcases upd_some q with z | z
    · subst z
      exact .inr (.inr ⟨i, d, .inl h, e1⟩)
    · exact .inl z
/-- given away, whatever it is -/
theorem solid_rp {K : Fg} {B : Bs} {H0 : Hp} {σ : L2.St} {r r' : Env} {F H : Hp} {t : TV} {x : V} {d : D} (s : StR K B F H σ r) (h0 : ∀ a, Own σ r a → H0 a ≠ none) (h : TvR K H0 σ F H t x) (e : solid r t = some (d, r')) :
    ∃ F', Rp K F' x d ∧ StR K B F' H σ r' ∧ Sub F F' ∧ (∀ a, F' a ≠ none → F a ≠ none ∨ H0 a = none ∨ Own σ r a) ∧ (∀ a, Own σ r' a → Own σ r a) := by
  cases t with
  | d v =>
    cases (show some (v, r) = some (d, r') from e)
    exact ⟨F, h, s, Sub.refl _, fun _ q => .inl q, fun _ q => q⟩
  | f v =>
    cases (show some (v, r) = some (d, r') from e)
    obtain ⟨p, o, e0, e1, e2, e3, e4⟩ := h
    subst e0
    refine ⟨upd F p o, (e3.mono (sub_upd e2)).rp upd_same, freeze (H0 := H0) s e1 e2 (fun z => h0 p z e4), sub_upd e2, fun a q => ?_, fun _ q => q⟩
    rcases upd_some q with z | z
    · subst z; exact .inr (.inl e4)
    · exact .inl z
  | s i =>
    have h : σ[i]? = some (some x) := h
    unfold solid at e
    simp only at e
    split at e
    · rename_i c hc
      cases e
      obtain ⟨y, e1, e2⟩ := s.val i _ hc
      rw [h] at e1
      cases e1
      exact ⟨F, e2, s, Sub.refl _, fun _ q => .inl q, fun _ q => q⟩
    · rename_i c hc
      cases e
      obtain ⟨a, o, e1, e2, p⟩ := freezeS s hc
      rw [h] at e1
      cases e1
      refine ⟨_, e2, p.st, p.mono, fun c q => ?_, p.own⟩
      rcases upd_some q with z | z
      · subst z
        exact .inr (.inr ⟨i, _, .inl hc, h⟩)
      · exact .inl z
    · cases e
end Ev

set_option linter.all false
set_option maxHeartbeats 1000000
/-! The evaluator's operators are the machine's. -/
namespace Ev
open PySem PySem.Spec PyProof.Rows L2

/-- what is read: its parts in F, itself in F or an object in H -/
def Rq (K : Fg) (F H : Hp) (x : V) (d : D) : Prop := Rp K F x d ∨ ∃ a o, x = .ref a ∧ H a = some o ∧ ObR K F o d
theorem deref_rq {K : Fg} {B : Bs} {H0 : Hp} {σ : L2.St} {r : Env} {F H : Hp} {t : TV} {x : V} {d : D} (s : StR K B F H σ r) (h : TvR K H0 σ F H t x) (e : deref r t = some d) : Rq K F H x d := by
  cases t with
  | d v =>
    cases (show some v = some d from e)
    exact .inl h
  | f v =>
    cases (show some v = some d from e)
    obtain ⟨p, o, e0, e1, _, e3, _⟩ := h
    exact .inr ⟨p, o, e0, e1, e3⟩
  | s i =>
    have h : σ[i]? = some (some x) := h
    have ob : ∀ c, (r[i]? = some (.own c) ∨ r[i]? = some (.bor c)) → Rq K F H x c := fun c hc => by
      obtain ⟨a, o, e1, e2, _, e4⟩ := s.obj i c hc
      rw [h] at e1
      cases e1
      exact .inr ⟨a, o, rfl, e2, e4⟩
    unfold deref at e
    simp only at e
    split at e
    · rename_i c hc
      cases e
      obtain ⟨y, e1, e2⟩ := s.val i _ hc
      rw [h] at e1
      cases e1
      exact .inl e2
    · rename_i c hc
      cases e
      exact ob _ (.inl hc)
    · rename_i c hc
      cases e
      exact ob _ (.inr hc)
    · cases e
section
variable {K : Fg} {F H : Hp} {x : V}
theorem Rq.rp {d : D} (s : Sub F H) (h : Rq K F H x d) : Rp K H x d := by
  rcases h with h | ⟨a, o, e, e1, e2⟩
  · exact h.mono s
  · subst e
    exact (e2.mono s).rp e1
theorem Rq.int {i : Int} (h : Rq K F H x (.int i)) : x = .int i := by
  rcases h with h | ⟨a, o, e, e1, e2⟩
  · cases h; rfl
  · exact e2.elim
theorem Rq.bl {i : Bool} (h : Rq K F H x (.bool i)) : x = .bl i := by
  rcases h with h | ⟨a, o, e, e1, e2⟩
  · cases h; rfl
  · exact e2.elim
theorem Rq.str {i : Str} (h : Rq K F H x (.str i)) : x = .str i := by
  rcases h with h | ⟨a, o, e, e1, e2⟩
  · cases h; rfl
  · exact e2.elim
theorem Rq.non (h : Rq K F H x .none) : x = .non := by
  rcases h with h | ⟨a, o, e, e1, e2⟩
  · cases h; rfl
  · exact e2.elim
theorem Rq.tup {ds : List D} (h : Rq K F H x (.tuple ds)) : ∃ a xs, x = .ref a ∧ SqT K F a xs ∧ RpL K F xs ds := by
  rcases h with h | ⟨a, o, e, e1, e2⟩
  · cases h with
    | tup h1 h2 => exact ⟨_, _, rfl, h1, h2⟩
  · exact e2.elim
theorem Rq.lst {ds : List D} (s : Sub F H) (h : Rq K F H x (.list ds)) : ∃ a xs, x = .ref a ∧ H a = some (.lst xs) ∧ RpL K F xs ds := by
  rcases h with h | ⟨a, o, e, e1, e2⟩
  · cases h with
    | lst h1 h2 => exact ⟨_, _, rfl, s _ _ h1, h2⟩
  · obtain ⟨xs, e3, e4⟩ := e2
    subst e3
    exact ⟨_, _, e, e1, e4⟩
end

theorem Rq.scr {K : Fg} {F H : Hp} {x : V} {ds : List D} (h : Rq K F H x (.dict [(.none, .list ds)])) : ∃ a xs, x = .ref a ∧ SqL K F a xs ∧ RpL K F xs ds := by
  rcases h with h | ⟨a, o, e, e1, e2⟩
  · cases h with
    | scr h1 h2 => exact ⟨_, _, rfl, h1, h2⟩
    | @dic _ kvs _ h1 h2 =>
      generalize hq : ([(PyData.none, PyData.list ds)] : List (D × D)) = q at h2
      cases h2 with
      | nil => cases hq
      | @cons k v d kvs ps h3 h4 =>
        have h5 : PyData.none = keyD k := by
          injection hq with h6
          exact congrArg Prod.fst h6
        cases k <;> cases h5
    | @dit _ kvs _ h1 h2 =>
      generalize hq : ([(PyData.none, PyData.list ds)] : List (D × D)) = q at h2
      cases h2 with
      | nil => cases hq
      | @cons k v d kvs ps h3 h4 =>
        have h5 : PyData.none = keyTD k := by
          injection hq with h6
          exact congrArg Prod.fst h6
        cases h5
  · rcases e2 with ⟨kvs, e3, h2⟩ | ⟨kvs, e3, h2⟩
    · generalize hq : ([(PyData.none, PyData.list ds)] : List (D × D)) = q at h2
      cases h2 with
      | nil => cases hq
      | @cons k v d kvs ps h3 h4 =>
        have h5 : PyData.none = keyD k := by
          injection hq with h6
          exact congrArg Prod.fst h6
        cases k <;> cases h5
    · generalize hq : ([(PyData.none, PyData.list ds)] : List (D × D)) = q at h2
      cases h2 with
      | nil => cases hq
      | @cons k v d kvs ps h3 h4 =>
        have h5 : PyData.none = keyTD k := by
          injection hq with h6
          exact congrArg Prod.fst h6
        cases h5

/-- an operation's result: a value that is there, or a new tuple or list -/
inductive Out (K : Fg) (F H : Hp) : TV → V → Hp → Prop
  | same {z : V} {w : D} : Rp K F z w → Out K F H (.d w) z H
  | tup {p : Addr} {xs : List V} {ds : List D} : H p = none → RpL K F xs ds → Out K F H (.d (.tuple ds)) (.ref p) (upd H p (.tup xs))
  | lst {p : Addr} {xs : List V} {ds : List D} : H p = none → RpL K F xs ds → Out K F H (.f (.list ds)) (.ref p) (upd H p (.lst xs))
theorem laid {K : Fg} {B : Bs} {σ : L2.St} {r : Env} {F H : Hp} {p : Addr} {o : HO} (s : StR K B F H σ r) (n : H p = none) : Post K B σ r F H r F (upd H p o) := by
  have sb : Sub H (upd H p o) := sub_upd n
  have fp : F p = none := by
    cases z : F p with
    | none => rfl
    | some u =>
      rw [s.sub _ _ z] at n
      cases n
  refine ⟨⟨fun a u q => sb a u (s.sub a u q), fun a q => ?_, s.len, s.val, fun i d q => ?_, s.new, s.lnt, s.inj⟩, Sub.refl _, fun a u q _ => sb a u q, fun a q => ?_, fun a q => .inl q, fun _ q => q⟩
  · have := s.dom a q
    cases z : H a with
    | none => exact absurd z this
    | some u => rw [sb a u z]; simp
  · obtain ⟨a, u, e1, e2, e3, e4⟩ := s.obj i d q
    exact ⟨a, u, e1, sb _ _ e2, e3, e4⟩
  · cases z : H a with
    | none => exact absurd z q
    | some u => rw [sb a u z]; simp
theorem Out.post {K : Fg} {B : Bs} {σ : L2.St} {r : Env} {F H H' : Hp} {t : TV} {z : V} (s : StR K B F H σ r) (h : Out K F H t z H') : ∃ F', Post K B σ r F H r F' H' ∧ TvR K H σ F' H' t z := by
  cases h with
  | same h => exact ⟨F, Post.refl s, h⟩
  | @tup p xs ds n rl =>
    have l := laid (o := .tup xs) s n
    have fp : F p = none := by
      cases q : F p with
      | none => rfl
      | some u =>
        rw [s.sub _ _ q] at n
        cases n
    have no : ¬ Own σ r p := fun q => by
      obtain ⟨o, e, _⟩ := s.ownH q
      rw [n] at e
      cases e
    refine ⟨upd F p (.tup xs), ⟨freeze (H0 := H) l.st upd_same fp no, sub_upd fp, l.frame, l.dom, fun a q => ?_, l.own⟩, .tup (SqT.of upd_same) (rl.mono (sub_upd fp))⟩
    rcases upd_some q with q | q
    · subst q; exact .inr (.inl n)
    · exact .inl q
  | @lst p xs ds n rl =>
    have fp : F p = none := by
      cases q : F p with
      | none => rfl
      | some u =>
        rw [s.sub _ _ q] at n
        cases n
    exact ⟨F, laid s n, p, _, rfl, upd_same, fp, ⟨xs, rfl, rl⟩, n⟩

/-! ### data compared -/
mutual
theorem Rp.dp {K : Fg} {H : Hp} : ∀ {v : V} {d : D}, Rp K H v d → d.canLay0 = true → Dp K H v d
  | _, _, .non, _ => .non
  | _, _, .bl b, _ => .bl b
  | _, _, .int i, _ => .int i
  | _, _, .str x, _ => .str x
  | _, _, .lst h r, c => .lst (SqL.of h) (RpL.dp r (by simpa [PyData.canLay0] using c))
  | _, _, .tup h r, c => .tup h (RpL.dp r (by simpa [PyData.canLay0] using c))
  | _, _, .dic h r, c => by simp [PyData.canLay0] at c
  | _, _, .dit h r, c => by simp [PyData.canLay0] at c
  | _, _, .scr h r, c => by simp [PyData.canLay0] at c
theorem RpL.dp {K : Fg} {H : Hp} : ∀ {v : List V} {d : List D}, RpL K H v d → PyData.canLayAll0 d = true → DpAll K H v d
  | _, _, .nil, _ => .nil
  | _, _, .cons h r, c => by
    have c' := c
    simp only [PyData.canLayAll0, Bool.and_eq_true] at c'
    exact .cons (Rp.dp h c'.1) (RpL.dp r c'.2)
end
theorem shaped_dp {K : Fg} {H : Hp} {v : V} {d : D} (h : Rp K H v d) (c : SeqAt.shaped d = true) : Dp K H v d := h.dp (SeqAt.canLay_of_shaped c)

theorem scal_eq {K : Fg} {F : Hp} {x y : V} {a b : D} (hx : Rp K F x a) (hy : Rp K F y b) (h : scal a b = true) : L2.scal x y = true ∧ decide (x = y) = PyData.eqv a b := by
  cases hx <;> cases hy <;> first
    | (simp [scal] at h; done)
    | (refine ⟨rfl, ?_⟩; simp [PyData.eqv]; try rfl)
    | skip
  all_goals first
    | done
    | (simp only [scal] at h; done)
    | skip
section
variable {X : Cx}
def rEqE (K : Fg) : R2 := fun x y H Q => ∃ a b, Rp K H x a ∧ Rp K H y b ∧ eqOk a b = true ∧ Q (.bl (PyData.eqv a b)) H
def rNeE (K : Fg) : R2 := fun x y H Q => ∃ a b, Rp K H x a ∧ Rp K H y b ∧ eqOk a b = true ∧ Q (.bl (!PyData.eqv a b)) H
theorem op_eqE (hu : X.A.units + 64 < cLine) : OpR X (compareOp .Eq) (rEqE X.K) := by
  intro pins s σ H x y v u Q I rx ry h
  obtain ⟨a, b, ha, hb, e, q⟩ := h
  unfold eqOk at e
  rw [Bool.or_eq_true] at e
  rcases e with e | e
  · obtain ⟨e1, e2⟩ := scal_eq ha hb e
    exact op_eq pins s σ H x y v u Q I rx ry ⟨e1, by rw [e2]; exact q⟩
  · rw [Bool.and_eq_true] at e
    exact op_eqD hu pins s σ H x y v u Q I rx ry ⟨a, b, shaped_dp ha e.1, shaped_dp hb e.2, e.1, e.2, q⟩
theorem op_neE (hu : X.A.units + 64 < cLine) : OpR X (compareOp .NotEq) (rNeE X.K) := by
  intro pins s σ H x y v u Q I rx ry h
  obtain ⟨a, b, ha, hb, e, q⟩ := h
  unfold eqOk at e
  rw [Bool.or_eq_true] at e
  rcases e with e | e
  · obtain ⟨e1, e2⟩ := scal_eq ha hb e
    exact op_ne pins s σ H x y v u Q I rx ry ⟨e1, by rw [e2]; exact q⟩
  · rw [Bool.and_eq_true] at e
    exact op_neD hu pins s σ H x y v u Q I rx ry ⟨a, b, shaped_dp ha e.1, shaped_dp hb e.2, e.1, e.2, q⟩
end
end Ev

set_option linter.all false
set_option maxHeartbeats 2000000
namespace Ev
open PySem PySem.Spec PyProof.Rows L2

def opB : Bo → Operator
  | .add => .Add
  | .sub => .Sub
  | .mul => .Mult
  | .div => .FloorDiv
  | .mod => .Mod
  | .pow => .Pow
def rBo (K : Fg) (o : Bo) : R2 := fun x y H Q => ∃ F u v t, Sub F H ∧ Rq K F H x u ∧ Rq K F H y v ∧ bop o u v = some t ∧ ∀ z H', Out K F H t z H' → Q z H'
theorem szl : SZ = sizeLine := by rw [sizeLine_eq]; rfl
theorem mulOk_c {i j : Int} (h : mulOk i j = true) : CMul i j := by
  unfold mulOk P64 at h
  rw [Bool.or_eq_true, Bool.and_eq_true, Bool.and_eq_true] at h
  simp only [decide_eq_true_eq] at h
  unfold CMul
  have e : (2 : Int) ^ 64 = 18446744073709551616 := by decide
  rw [e]
  omega
section
variable {X : Cx}
theorem or_bop (o : Bo) : OpR X (binaryOp (opB o)) (rBo X.K o) := by
  intro pins s σ H x y v u Q I rx ry h
  obtain ⟨F, a, b, t, sb, ha, hb, e, q⟩ := h
  unfold bop at e
  split at e
  · cases e
    exact op_add pins s σ H x y v u Q I rx ry ⟨_, _, ha.int, hb.int, q _ _ (.same (.int _))⟩
  · split at e
    · cases e
      rename_i w
      exact op_add_str pins s σ H x y v u Q I rx ry ⟨_, _, ha.str, hb.str, szl ▸ w, q _ _ (.same (.str _))⟩
    · cases e
  · split at e
    · cases e
      rename_i w
      obtain ⟨p, xs, rfl, h1, r1⟩ := ha.tup
      obtain ⟨p2, ys, rfl, h2, r2⟩ := hb.tup
      refine op_catA pins s σ H _ _ v u Q I rx ry ⟨p, p2, xs, ys, rfl, rfl, sb.sqt h1, sb.sqt h2, by rw [r1.length, r2.length]; exact szl ▸ w, fun z => ?_, fun _ z => ?_, fun _ _ c hc => ?_⟩
      · subst z
        cases r1
        exact q _ _ (.same (.tup h2 r2))
      · subst z
        cases r2
        rw [List.append_nil] at q
        exact q _ _ (.same (.tup h1 r1))
      · exact q _ _ (.tup hc (r1.append r2))
    · cases e
  · split at e
    · cases e
      rename_i w
      obtain ⟨p, xs, rfl, h1, r1⟩ := ha.lst sb
      obtain ⟨p2, ys, rfl, h2, r2⟩ := hb.lst sb
      refine op_cat pins s σ H _ _ v u Q I rx ry ⟨p, p2, xs, ys, rfl, rfl, h1, h2, by rw [r1.length, r2.length]; exact szl ▸ w, fun c hc => ?_⟩
      exact q _ _ (.lst hc (r1.append r2))
    · cases e
  · cases e
    exact op_sub pins s σ H x y v u Q I rx ry ⟨_, _, ha.int, hb.int, q _ _ (.same (.int _))⟩
  · split at e
    · cases e
      rename_i w
      exact op_mul pins s σ H x y v u Q I rx ry ⟨_, _, ha.int, hb.int, mulOk_c w, q _ _ (.same (.int _))⟩
    · cases e
  · split at e
    · cases e
      rename_i w
      obtain ⟨p, xs, rfl, h1, r1⟩ := ha.tup
      refine op_repT pins s σ H _ y v u Q I rx ry ⟨p, _, xs, rfl, hb.int, sb.sqt h1, fun z => ?_, w.2.2.1, w.2.1, by rw [r1.length]; exact w.1, fun c hc => ?_⟩
      · subst z
        cases r1
        exact Bool.noConfusion w.2.2.2
      · exact q _ _ (.tup hc (r1.rep _))
    · cases e
  · split at e
    · cases e
      rename_i w
      exact op_fdiv pins s σ H x y v u Q I rx ry ⟨_, _, ha.int, hb.int, w, q _ _ (.same (.int _))⟩
    · cases e
  · split at e
    · cases e
      rename_i w
      exact op_mod pins s σ H x y v u Q I rx ry ⟨_, _, ha.int, hb.int, w, q _ _ (.same (.int _))⟩
    · cases e
  · split at e
    · cases e
      rename_i w
      refine op_pow pins s σ H x y v u Q I rx ry ⟨_, _, ha.int, hb.int, ⟨w.1, w.2.1, ?_⟩, q _ _ (.same (.int _))⟩
      have e2 : (2 : Nat) ^ 64 = 18446744073709551616 := by decide
      rw [e2]
      exact w.2.2
    · cases e
  · cases e

/-! ### comparisons -/
def opC : Co → CmpOp
  | .eq => .Eq
  | .ne => .NotEq
  | .lt => .Lt
  | .le => .LtE
  | .gt => .Gt
  | .ge => .GtE
  | .is => .Is
  | .isNot => .IsNot
  | .inn => .In
  | .notIn => .NotIn
def rCo (K : Fg) (o : Co) : R2 := fun x y H Q => ∃ F u v t, Sub F H ∧ Rq K F H x u ∧ Rq K F H y v ∧ cop o u v = some t ∧ Q (.bl t) H
theorem isOf_or {F H : Hp} {x y : V} {a b : D} {t : Bool} (sb : Sub F H) (ha : Rq X.K F H x a) (hb : Rq X.K F H y b) (e : isOf a b = some t) : (y = .non ∧ t = decide (x = .non)) ∨ ∃ c d, x = .bl c ∧ y = .bl d ∧ t = decide (c = d) := by
  unfold isOf at e
  split at e
  · cases e
    refine .inl ⟨hb.non, ?_⟩
    have h := ha.rp sb
    cases h <;> simp
  · cases e
    exact .inr ⟨_, _, ha.bl, hb.bl, Bool.beq_eq_decide_eq _ _⟩
  · cases e
theorem flat_V {K : Fg} {F : Hp} {x : V} {d : D} (h : Rp K F x d) (f : flat d = true) : flatV x = true := by
  cases h <;> first | rfl | (simp [flat] at f)
theorem flat_eqV {K : Fg} {F : Hp} {x y : V} {a b : D} (hx : Rp K F x a) (hy : Rp K F y b) (fa : flat a = true) (fb : flat b = true) : eqV x y = PyData.eqv a b := by
  cases hx <;> cases hy <;> first
    | rfl
    | (simp [flat] at fa; done)
    | (simp [flat] at fb; done)
    | (simp [eqV, PyData.eqv])
theorem flat_all {K : Fg} {F : Hp} : ∀ {xs : List V} {ds : List D}, RpL K F xs ds → ds.all flat = true → xs.all flatV = true
  | _, _, .nil, _ => rfl
  | _, _, .cons h r, f => by
    rw [List.all_cons, Bool.and_eq_true] at f ⊢
    exact ⟨flat_V h f.1, flat_all r f.2⟩
theorem flat_any {K : Fg} {F : Hp} {x : V} {a : D} (hx : Rp K F x a) (fa : flat a = true) : ∀ {xs : List V} {ds : List D}, RpL K F xs ds → ds.all flat = true → inV x xs = ds.any fun y => PyData.eqv y a
  | _, _, .nil, _ => rfl
  | _, _, .cons h r, f => by
    rw [List.all_cons, Bool.and_eq_true] at f
    show (eqV _ x || inV x _) = (PyData.eqv _ a || _)
    rw [flat_eqV h hx f.1 fa, flat_any hx fa r f.2]
theorem inOf_op {neg : Bool} {pins : List (Addr × Obj)} {s : Shared} {σ : L2.St} {F H : Hp} {x y : V} {v u : Value} {Q : VK} (hu : X.A.units + 65 < cLine) (I : Inv X pins σ H s) (rx : RelV x v) (ry : RelV y u) {a b : D} {t : Bool} (sb : Sub F H) (ha : Rq X.K F H x a)
    (hb : Rq X.K F H y b) (e : inOf a b = some t) (q : Q (.bl (if neg then !t else t)) H) : wpAny (model X.prog X.w) X.A (compareOp (if neg then .NotIn else .In) v u) (EP X pins σ Q) X.xe s := by
  have hx := ha.rp sb
  unfold inOf at e
  split at e
  · split at e
    · split at e
      · cases e
        rename_i c hc
        have ex : ∀ x' : Str, x'.cps.toList = [c] → x' = ⟨#[c]⟩ := fun x' hc => by
          obtain ⟨cs⟩ := x'
          simp only at hc
          have : cs = #[c] := by
            rw [← Array.toArray_toList (xs := cs), hc]
          rw [this]
        have h1 := ha.str
        rw [ex _ hc] at h1
        cases neg with
        | true => exact op_notIn_sign pins s σ H x y v u Q I rx ry ⟨c, _, h1, hb.str, q⟩
        | false => exact op_in_sign pins s σ H x y v u Q I rx ry ⟨c, _, h1, hb.str, q⟩
      · cases e
    · cases e
  · obtain ⟨p, xs, rfl, h1, r1⟩ := hb.lst sb
    split at e
    · rename_i w
      cases e
      rw [Bool.and_eq_true] at w
      have hin := flat_any hx w.1 (r1.mono sb) w.2
      cases neg with
      | true => exact op_notIn_seq pins s σ H x _ v u Q I rx ry ⟨p, xs, rfl, .inl (SqL.of h1), flat_V hx w.1, flat_all r1 w.2, by rw [hin]; exact q⟩
      | false => exact op_in_seq pins s σ H x _ v u Q I rx ry ⟨p, xs, rfl, .inl (SqL.of h1), flat_V hx w.1, flat_all r1 w.2, by rw [hin]; exact q⟩
    · split at e
      · rename_i w
        cases e
        rw [Bool.and_eq_true] at w
        have hy : Rp X.K H (.ref p) (.list _) := .lst h1 (r1.mono sb)
        cases neg with
        | true => exact op_notInD hu pins s σ H x _ v u Q I rx ry ⟨a, _, shaped_dp hx w.1, shaped_dp hy w.2, w.1, w.2, q⟩
        | false => exact op_inD hu pins s σ H x _ v u Q I rx ry ⟨a, _, shaped_dp hx w.1, shaped_dp hy w.2, w.1, w.2, q⟩
      · cases e
  · obtain ⟨p, xs, rfl, h1, r1⟩ := hb.tup
    split at e
    · rename_i w
      cases e
      rw [Bool.and_eq_true] at w
      have hin := flat_any hx w.1 (r1.mono sb) w.2
      cases neg with
      | true => exact op_notIn_seq pins s σ H x _ v u Q I rx ry ⟨p, xs, rfl, .inr (sb.sqt h1), flat_V hx w.1, flat_all r1 w.2, by rw [hin]; exact q⟩
      | false => exact op_in_seq pins s σ H x _ v u Q I rx ry ⟨p, xs, rfl, .inr (sb.sqt h1), flat_V hx w.1, flat_all r1 w.2, by rw [hin]; exact q⟩
    · cases e
  · cases e
theorem or_cop (hu : X.A.units + 65 < cLine) (o : Co) : OpR X (compareOp (opC o)) (rCo X.K o) := by
  intro pins s σ H x y v u Q I rx ry h
  obtain ⟨F, a, b, t, sb, ha, hb, e, q⟩ := h
  unfold cop at e
  split at e
  · split at e
    · cases e
      rename_i w
      exact op_eqE (by omega) pins s σ H x y v u Q I rx ry ⟨a, b, ha.rp sb, hb.rp sb, w, q⟩
    · cases e
  · split at e
    · cases e
      rename_i w
      exact op_neE (by omega) pins s σ H x y v u Q I rx ry ⟨a, b, ha.rp sb, hb.rp sb, w, q⟩
    · cases e
  · cases e; exact op_lt pins s σ H x y v u Q I rx ry ⟨_, _, ha.int, hb.int, q⟩
  · cases e; exact op_le pins s σ H x y v u Q I rx ry ⟨_, _, ha.int, hb.int, q⟩
  · cases e; exact op_gt pins s σ H x y v u Q I rx ry ⟨_, _, ha.int, hb.int, q⟩
  · cases e; exact op_ge pins s σ H x y v u Q I rx ry ⟨_, _, ha.int, hb.int, q⟩
  · cases e; exact op_lt_str pins s σ H x y v u Q I rx ry ⟨_, _, ha.str, hb.str, q⟩
  · cases e; exact op_le_str pins s σ H x y v u Q I rx ry ⟨_, _, ha.str, hb.str, q⟩
  · cases e; exact op_gt_str pins s σ H x y v u Q I rx ry ⟨_, _, ha.str, hb.str, q⟩
  · cases e; exact op_ge_str pins s σ H x y v u Q I rx ry ⟨_, _, ha.str, hb.str, q⟩
  · rcases isOf_or sb ha hb e with ⟨e1, e2⟩ | ⟨c, d, e1, e2, e3⟩
    · exact op_isN pins s σ H x y v u Q I rx ry ⟨e1, by rw [← e2]; exact q⟩
    · exact op_is_bl pins s σ H x y v u Q I rx ry ⟨c, d, e1, e2, by rw [← e3]; exact q⟩
  · rw [Option.map_eq_some_iff] at e
    obtain ⟨k, e, ek⟩ := e
    subst ek
    rcases isOf_or sb ha hb e with ⟨e1, e2⟩ | ⟨c, d, e1, e2, e3⟩
    · exact op_notN pins s σ H x y v u Q I rx ry ⟨e1, by rw [← e2]; exact q⟩
    · exact op_isnot_bl pins s σ H x y v u Q I rx ry ⟨c, d, e1, e2, by rw [← e3]; exact q⟩
  · exact inOf_op (neg := false) hu I rx ry sb ha hb e q
  · rw [Option.map_eq_some_iff] at e
    obtain ⟨k, e, ek⟩ := e
    subst ek
    exact inOf_op (neg := true) hu I rx ry sb ha hb e q
  · cases e
end
end Ev

set_option linter.all false
set_option maxHeartbeats 2000000
namespace Ev
open PySem PySem.Spec PyProof.Rows L2

theorem ixN_eq (n : Nat) (i : Int) : Ev.ixN n i = L2.ixN n i := rfl
theorem sIx_eq (n d : Nat) (o : Option Int) : Ev.sIx n d o = HT.sIx n d o := by cases o <;> rfl
theorem cut_eq (xs : List V) (lo hi : Option Int) : cut xs lo hi = cutV xs lo hi := by
  unfold cut cutV
  rw [sIx_eq, sIx_eq]
theorem atI_rp {K : Fg} {F : Hp} {xs : List V} {ds : List D} (r : RpL K F xs ds) {i : Int} {d : D} (e : Ev.atI ds i = some d) : ∃ y, L2.atI xs i = some y ∧ Rp K F y d := by
  unfold Ev.atI at e
  rw [Option.bind_eq_some_iff] at e
  obtain ⟨j, e1, e2⟩ := e
  obtain ⟨y, h1, h2⟩ := r.get j d e2
  refine ⟨y, ?_, h2⟩
  unfold L2.atI
  rw [Option.bind_eq_some_iff]
  exact ⟨j, by rw [r.length]; exact e1, h1⟩
theorem RpL.cut {K : Fg} {F : Hp} {xs : List V} {ds : List D} (r : RpL K F xs ds) (lo hi : Option Int) : RpL K F (cutV xs lo hi) (Ev.cut ds lo hi) := by
  rw [← cut_eq]
  unfold Ev.cut
  rw [r.length]
  exact (r.drop _).take _
def rIdx (K : Fg) : R2 := fun x y H Q => ∃ F u v t, Sub F H ∧ Rq K F H x u ∧ Rq K F H y v ∧ idx u v = some t ∧ ∀ z, Rp K F z t → Q z H
section
variable {X : Cx}
theorem ix_idx : IxR X (rIdx X.K) := by
  intro value slice pins s σ H x y v u Q I rx ry h hs
  obtain ⟨F, a, b, t, sb, ha, hb, e, q⟩ := h
  unfold idx at e
  split at e
  · obtain ⟨p, xs, rfl, h1, r1⟩ := ha.lst sb
    obtain ⟨y1, e1, e2⟩ := atI_rp r1 e
    exact ix_list value slice pins s σ H _ y v u Q I rx ry ⟨p, xs, _, y1, rfl, hb.int, SqL.of h1, e1, q _ e2⟩ hs
  · obtain ⟨p, xs, rfl, h1, r1⟩ := ha.tup
    obtain ⟨y1, e1, e2⟩ := atI_rp r1 e
    exact ix_tup value slice pins s σ H _ y v u Q I rx ry ⟨p, xs, _, y1, rfl, hb.int, sb.sqt h1, e1, q _ e2⟩ hs
  · split at e
    · rename_i w
      rw [Option.map_eq_some_iff] at e
      obtain ⟨c, e1, e2⟩ := e
      subst e2
      exact ix_str value slice pins s σ H _ y v u Q I rx ry ⟨_, _, c, ha.str, hb.int, szl ▸ w, e1, q _ (.str _)⟩ hs
    · cases e
  · cases e
def rSlc (K : Fg) : V → Option Int → Option Int → Hp → VK → Prop := fun x lo hi H Q => ∃ F u t, Sub F H ∧ Rq K F H x u ∧ slice lo hi u = some t ∧ ∀ z H', Out K F H t z H' → Q z H'
theorem sl_slc : SlR X (rSlc X.K) := by
  intro pins s σ H x v vl vu lo hi sl Q I rx hs pl pu h
  obtain ⟨F, a, t, sb, ha, e, q⟩ := h
  unfold slice at e
  split at e
  · cases e
    obtain ⟨p, xs, rfl, h1, r1⟩ := ha.lst sb
    exact sl_list pins s σ H _ v vl vu lo hi sl Q I rx hs pl pu ⟨p, xs, rfl, SqL.of h1, fun c hc => q _ _ (.lst hc (r1.cut lo hi))⟩
  · cases e
    obtain ⟨p, xs, rfl, h1, r1⟩ := ha.tup
    refine sl_tupA pins s σ H _ v vl vu lo hi sl Q I rx hs pl pu ⟨p, xs, rfl, sb.sqt h1, fun z => ?_, fun _ c hc => q _ _ (.tup hc (r1.cut lo hi))⟩
    refine q _ _ (.same (.tup h1 ?_))
    have e2 : cutV xs lo hi = xs := by
      unfold cutV
      rw [z.1, z.2, List.drop_zero, Nat.sub_zero, List.take_length]
    have r2 := r1.cut lo hi
    rw [e2] at r2
    exact r2
  · split at e
    · rename_i w
      cases e
      refine sl_str pins s σ H _ v vl vu lo hi sl Q I rx hs pl pu ⟨_, ha.str, szl ▸ w, ?_⟩
      refine q _ _ (.same ?_)
      have e3 : ∀ z : Str, cutS z lo hi = ⟨(cut z.cps.toList lo hi).toArray⟩ := fun z => by
        unfold cutS cut
        rw [sIx_eq, sIx_eq]
        rfl
      rw [e3]
      exact .str _
    · cases e
  · cases e
def rNeg : V → Hp → VK → Prop := rU fun i => .int (-i)
/-- truth -/
theorem truth_tru {K : Fg} {F H : Hp} {x : V} {d : D} {b : Bool} (sb : Sub F H) (h : Rq K F H x d) (e : truth d = some b) : TruV K x H b := by
  unfold truth at e
  split at e
  · cases e; cases h.non; rfl
  · cases e; cases h.bl; rfl
  · cases e; cases h.int; rfl
  · split at e
    · rename_i w
      cases e; cases h.str
      exact ⟨szl ▸ w, rfl⟩
    · cases e
  · cases e
    obtain ⟨p, xs, rfl, h1, r1⟩ := h.lst sb
    exact .inl ⟨xs, SqL.of h1, by rw [r1.nil_iff]⟩
  · cases e
    obtain ⟨p, xs, rfl, h1, r1⟩ := h.tup
    exact .inr (.inl ⟨xs, sb.sqt h1, by rw [r1.nil_iff]⟩)
  · cases e

/-! ### isinstance -/
def tyN : Ty → String
  | .int => "int"
  | .bool => "bool"
  | .str => "str"
  | .tuple => "tuple"
  | .list => "list"
  | .dict => "dict"
def tyD : D → String
  | .none => "NoneType"
  | .bool _ => "bool"
  | .int _ => "int"
  | .str _ => "str"
  | .tuple _ => "tuple"
  | .list _ => "list"
  | .dict _ => "dict"
theorem kit_ty (K : Fg) (d : D) (t : Ty) (h : notDict d = true) : PySem.W.kitOne K (.type (tyD d)) (.type (tyN t)) = some (isTy t d) := by
  cases d <;> first | (simp [notDict] at h; done) | (cases t <;> rfl)
theorem tyx {K : Fg} {F H : Hp} {x : V} {d : D} (sb : Sub F H) (h : Rq K F H x d) (hd : notDict d = true) : TyX K H x (.type (tyD d)) := by
  cases d with
  | none => cases h.non; exact .base .non
  | bool b => cases h.bl; exact .base (.bl _)
  | int i => cases h.int; exact .base (.int _)
  | str i => cases h.str; exact .base (.str _)
  | list ds =>
    obtain ⟨p, xs, rfl, h1, r1⟩ := h.lst sb
    exact .base (.lst h1)
  | tuple ds =>
    obtain ⟨p, xs, rfl, h1, r1⟩ := h.tup
    rcases sb.sqt h1 with (h1 | ⟨o, h1⟩) | ⟨o, its, n, h1, h2, _⟩
    · exact .base (.tup h1)
    · exact .fTuple h1
    · exact .kTuple h1 h2
  | dict ps => simp [notDict] at hd
end
end Ev

set_option linter.all false
set_option maxHeartbeats 2000000
namespace Ev
open PySem PySem.Spec PyProof.Rows L2

theorem intsL_V {K : Fg} {F : Hp} : ∀ {xs : List V} {ds : List D} {ns : List Int}, RpL K F xs ds → intsL ds = some ns → xs = ns.map V.int
  | _, _, _, .nil, e => by cases e; rfl
  | _, _, _, .cons h r, e => by
    rename_i d ds'
    unfold intsL at e
    cases d <;> simp only [reduceCtorEq] at e
    rw [Option.map_eq_some_iff] at e
    obtain ⟨ms, e1, e2⟩ := e
    subst e2
    cases h
    rw [intsL_V r e1]
    rfl
theorem boolsL_V {K : Fg} {F : Hp} : ∀ {xs : List V} {ds : List D} {ns : List Bool}, RpL K F xs ds → boolsL ds = some ns → xs = ns.map V.bl
  | _, _, _, .nil, e => by cases e; rfl
  | _, _, _, .cons h r, e => by
    rename_i d ds'
    unfold boolsL at e
    cases d <;> simp only [reduceCtorEq] at e
    rw [Option.map_eq_some_iff] at e
    obtain ⟨ms, e1, e2⟩ := e
    subst e2
    cases h
    rw [boolsL_V r e1]
    rfl
theorem maxL_spec : ∀ (r : List Int) (x : Int), (maxL x r = x ∨ maxL x r ∈ r) ∧ x ≤ maxL x r ∧ ∀ y ∈ r, y ≤ maxL x r
  | [], x => ⟨.inl rfl, Int.le_refl _, fun _ h => nomatch h⟩
  | y :: r, x => by
    unfold maxL
    have ih := maxL_spec r (if x < y then y else x)
    obtain ⟨h1, h2, h3⟩ := ih
    refine ⟨?_, ?_, ?_⟩
    · rcases h1 with h1 | h1
      · by_cases q : x < y
        · rw [if_pos q] at h1 ⊢; right; rw [h1]; exact List.mem_cons_self
        · rw [if_neg q] at h1 ⊢; left; exact h1
      · right; exact List.mem_cons_of_mem _ h1
    · by_cases q : x < y
      · rw [if_pos q] at h2 ⊢; omega
      · rw [if_neg q] at h2 ⊢; exact h2
    · intro z hz
      rcases List.mem_cons.mp hz with hz | hz
      · subst hz
        by_cases q : x < z
        · rw [if_pos q] at h2 ⊢; exact h2
        · rw [if_neg q] at h2 ⊢; omega
      · exact h3 z hz
theorem minL_spec : ∀ (r : List Int) (x : Int), (minL x r = x ∨ minL x r ∈ r) ∧ minL x r ≤ x ∧ ∀ y ∈ r, minL x r ≤ y
  | [], x => ⟨.inl rfl, Int.le_refl _, fun _ h => nomatch h⟩
  | y :: r, x => by
    unfold minL
    have ih := minL_spec r (if y < x then y else x)
    obtain ⟨h1, h2, h3⟩ := ih
    refine ⟨?_, ?_, ?_⟩
    · rcases h1 with h1 | h1
      · by_cases q : y < x
        · rw [if_pos q] at h1 ⊢; right; rw [h1]; exact List.mem_cons_self
        · rw [if_neg q] at h1 ⊢; left; exact h1
      · right; exact List.mem_cons_of_mem _ h1
    · by_cases q : y < x
      · rw [if_pos q] at h2 ⊢; omega
      · rw [if_neg q] at h2 ⊢; exact h2
    · intro z hz
      rcases List.mem_cons.mp hz with hz | hz
      · subst hz
        by_cases q : z < x
        · rw [if_pos q] at h2 ⊢; exact h2
        · rw [if_neg q] at h2 ⊢; omega
      · exact h3 z hz
def b1V : B1 → Value
  | .abs => .builtin "abs"
  | .int => .type "int"
  | .len => .builtin "len"
  | .list => .type "list"
  | .tuple => .type "tuple"
  | .sum => .builtin "sum"
  | .all => .builtin "all"
  | .any => .builtin "any"
  | .max => .builtin "max"
  | .min => .builtin "min"
  | .sorted => .builtin "sorted"
  | .str => .type "str"
  | .repr => .builtin "repr"
def rB1 (K : Fg) (b : B1) : List V → Hp → VK → Prop := fun xs H Q => ∃ F x u t, xs = [x] ∧ Sub F H ∧ Rq K F H x u ∧ b1 b u = some t ∧ ∀ z H', Out K F H t z H' → Q z H'
def b2V : B2 → Value
  | .max => .builtin "max"
  | .min => .builtin "min"
def rB2 (K : Fg) (b : B2) : List V → Hp → VK → Prop := fun xs H Q => ∃ F x y u v t, xs = [x, y] ∧ Sub F H ∧ Rq K F H x u ∧ Rq K F H y v ∧ b2 b u v = some t ∧ ∀ z, Rp K F z t → Q z H
section
variable {X : Cx}
theorem call_repr_bool : CallR X (.builtin "repr") (fun xs H Q => ∃ b : Bool, xs = [.bl b] ∧ Q (.str (if b then "True" else "False")) H) := by
  intro pins s σ H xs us Q I r h
  obtain ⟨b, rfl, q⟩ := h
  obtain ⟨u, rfl, rfl⟩ := vals1 r
  exact PySem.P.repr_of_bool ⟨.str _, H, I.tok _, ⟨_, rfl⟩, q⟩
theorem cr_b1 (hc : X.calm = true) (b : B1) : CallR X (b1V b) (rB1 X.K b) := by
  intro pins s σ H xs us Q I r h
  obtain ⟨F, x, u, t, rfl, sb, ha, e, q⟩ := h
  unfold b1 at e
  split at e
  · cases e
    exact call_abs pins s σ H _ us Q I r ⟨_, by rw [ha.int], q _ _ (.same (.int _))⟩
  · cases e
    exact call_int1 pins s σ H _ us Q I r (.inl ⟨_, by rw [ha.int], q _ _ (.same (.int _))⟩)
  · split at e
    · cases e
      rename_i w
      exact call_len pins s σ H _ us Q I r ⟨x, _, rfl, by rw [ha.str]; exact ⟨szl ▸ w, rfl⟩, q _ _ (.same (.int _))⟩
    · cases e
  · cases e
    obtain ⟨p, ys, rfl, h1, r1⟩ := ha.lst sb
    exact call_len pins s σ H _ us Q I r ⟨_, _, rfl, .inl ⟨ys, SqL.of h1, rfl⟩, by rw [r1.length]; exact q _ _ (.same (.int _))⟩
  · cases e
    obtain ⟨p, ys, rfl, h1, r1⟩ := ha.tup
    exact call_len pins s σ H _ us Q I r ⟨_, _, rfl, .inr ⟨ys, sb.sqt h1, rfl⟩, by rw [r1.length]; exact q _ _ (.same (.int _))⟩
  · cases e
    obtain ⟨p, ys, rfl, h1, r1⟩ := ha.lst sb
    exact call_list_of pins s σ H _ us Q I r ⟨p, ys, rfl, .inl (SqL.of h1), fun c hc => q _ _ (.lst hc r1)⟩
  · cases e
    obtain ⟨p, ys, rfl, h1, r1⟩ := ha.tup
    exact call_list_of pins s σ H _ us Q I r ⟨p, ys, rfl, .inr (sb.sqt h1), fun c hc => q _ _ (.lst hc r1)⟩
  · cases e
    obtain ⟨p, ys, rfl, h1, r1⟩ := ha.scr
    exact call_list_of pins s σ H _ us Q I r ⟨p, ys, rfl, .inl (sb.sql h1), fun c hc => q _ _ (.lst hc r1)⟩
  · cases e
    obtain ⟨p, ys, rfl, h1, r1⟩ := ha.lst sb
    exact call_tuple_of pins s σ H _ us Q I r ⟨p, ys, rfl, .inl ⟨SqL.of h1, fun c hc => q _ _ (.tup hc r1)⟩⟩
  · cases e
    obtain ⟨p, ys, rfl, h1, r1⟩ := ha.tup
    exact call_tuple_of pins s σ H _ us Q I r ⟨p, ys, rfl, .inr ⟨sb.sqt h1, q _ _ (.same (.tup h1 r1))⟩⟩
  · obtain ⟨p, ys, rfl, h1, r1⟩ := ha.lst sb
    rw [Option.map_eq_some_iff] at e
    obtain ⟨ns, e1, e2⟩ := e
    subst e2
    have ey := intsL_V r1 e1
    subst ey
    exact cr_sum hc pins s σ H _ us Q I r ⟨p, ns, rfl, SqL.of h1, q _ _ (.same (.int _))⟩
  · obtain ⟨p, ys, rfl, h1, r1⟩ := ha.lst sb
    rw [Option.map_eq_some_iff] at e
    obtain ⟨ns, e1, e2⟩ := e
    subst e2
    have ey := boolsL_V r1 e1
    subst ey
    exact cr_all hc pins s σ H _ us Q I r ⟨p, ns, rfl, SqL.of h1, q _ _ (.same (.bl _))⟩
  · obtain ⟨p, ys, rfl, h1, r1⟩ := ha.lst sb
    rw [Option.map_eq_some_iff] at e
    obtain ⟨ns, e1, e2⟩ := e
    subst e2
    have ey := boolsL_V r1 e1
    subst ey
    exact cr_any hc pins s σ H _ us Q I r ⟨p, ns, rfl, SqL.of h1, q _ _ (.same (.bl _))⟩
  · obtain ⟨p, ys, rfl, h1, r1⟩ := ha.lst sb
    split at e
    · rename_i x r' e1
      cases e
      have ey := intsL_V r1 e1
      subst ey
      refine cr_max hc pins s σ H _ us Q I r ⟨p, _, rfl, SqL.of h1, by simp, fun m hm hall => ?_⟩
      obtain ⟨k1, k2, k3⟩ := maxL_spec r' x
      have em : m = maxL x r' := by
        apply Int.le_antisymm
        · rcases List.mem_cons.mp hm with z | z
          · rw [z]; exact k2
          · exact k3 m z
        · rcases k1 with z | z
          · rw [z]; exact hall x List.mem_cons_self
          · exact hall _ (List.mem_cons_of_mem _ z)
      rw [em]
      exact q _ _ (.same (.int _))
    · cases e
  · obtain ⟨p, ys, rfl, h1, r1⟩ := ha.lst sb
    split at e
    · rename_i x r' e1
      cases e
      have ey := intsL_V r1 e1
      subst ey
      refine cr_min hc pins s σ H _ us Q I r ⟨p, _, rfl, SqL.of h1, by simp, fun m hm hall => ?_⟩
      obtain ⟨k1, k2, k3⟩ := minL_spec r' x
      have em : m = minL x r' := by
        apply Int.le_antisymm
        · rcases k1 with z | z
          · rw [z]; exact hall x List.mem_cons_self
          · exact hall _ (List.mem_cons_of_mem _ z)
        · rcases List.mem_cons.mp hm with z | z
          · rw [z]; exact k2
          · exact k3 m z
      rw [em]
      exact q _ _ (.same (.int _))
    · cases e
  · split at e
    · cases e
      rename_i w
      exact call_str_int pins s σ H _ us Q I r ⟨_, by rw [ha.int], w, q _ _ (.same (.str _))⟩
    · cases e
  · cases e
    exact call_repr_bool pins s σ H _ us Q I r ⟨_, by rw [ha.bl], q _ _ (.same (.str _))⟩
  · split at e
    · cases e
      rename_i w
      exact SkE.call_repr_int pins s σ H _ us Q I r ⟨_, by rw [ha.int], w, q _ _ (.same (.str _))⟩
    · cases e
  · cases e
theorem cr_b2 (hc : X.calm = true) (b : B2) : CallR X (b2V b) (rB2 X.K b) := by
  intro pins s σ H xs us Q I r h
  obtain ⟨F, x, y, u, v, t, rfl, sb, ha, hb, e, q⟩ := h
  unfold b2 at e
  split at e
  · cases e
    exact call_max2 hc pins s σ H _ us Q I r ⟨_, _, by rw [ha.int, hb.int], q _ (.int _)⟩
  · cases e
    exact call_min2 hc pins s σ H _ us Q I r ⟨_, _, by rw [ha.int, hb.int], q _ (.int _)⟩
  · cases e
end
end Ev

set_option linter.all false
set_option maxHeartbeats 2000000
/-! enumerate and zip of lists and tuples in any mix. -/
namespace Ev
open PySem PySem.Spec PyProof.Rows L2
def SqX (K : Fg) (b : Bool) (H : Hp) (a : Addr) (xs : List V) : Prop := match b with | true => SqL K H a xs | false => SqT K H a xs
def IsX (b : Bool) (h : Heap) (a : Addr) (its : Array Value) : Prop := match b with | true => h.IsList a its | false => h.IsTuple a its
def ItrX (b : Bool) (h : Heap) (it a : Addr) (i : Nat) : Prop := match b with | true => h.IsListIter it a i | false => h.IsTupleIter it a i
def objX (b : Bool) (a : Addr) : Obj := match b with | true => { cls := .type "list_iterator", data := .fields #[.ref a, .int 0 0] } | false => { cls := .type "tuple_iterator", data := .fields #[.ref a, .int 0 0] }
theorem begX (b : Bool) (a : Addr) (its : Array Value) : Begins (.ref a) (objX b a) fun h => IsX b h a its := by
  cases b with
  | true => exact begins_list a its
  | false => exact begins_tuple a its
theorem drawX {prog : Program} {w : World} {A : Around} (b : Bool) (hh : A.handled = none) (it a : Addr) (hne : a ≠ it) (its : Array Value) :
    Draws prog w A it [it, a] its.size (fun i v => its[i]? = some v) (fun i h => ItrX b h it a i ∧ IsX b h a its) := by
  cases b with
  | true => exact Draws.list hh it a hne its
  | false => exact Draws.tuple hh it a hne its
theorem itrX_new {b : Bool} {h : Heap} {it a : Addr} (e : h.get? it = some (objX b a)) : ItrX b h it a 0 := by
  cases b with
  | true => exact ⟨_, e, rfl, rfl⟩
  | false => exact ⟨_, e, rfl, rfl⟩
theorem itrX_at {b : Bool} {h h' : Heap} {it a : Addr} {i : Nat} (x : ItrX b h it a i) (k : ∀ o, h.get? it = some o → h'.get? it = some o) : ItrX b h' it a i := by
  cases b with
  | true => exact Heap.IsListIter.at x k
  | false => exact Heap.IsTupleIter.at x k
theorem itrX_obj {b : Bool} {h : Heap} {it a : Addr} {i : Nat} (x : ItrX b h it a i) : ∃ o, h.get? it = some o ∧ ∀ v, o.data ≠ .cell v := by
  cases b with
  | true => obtain ⟨o, e, _, d⟩ := x; exact ⟨o, e, fun v q => by rw [d] at q; cases q⟩
  | false => obtain ⟨o, e, _, d⟩ := x; exact ⟨o, e, fun v q => by rw [d] at q; cases q⟩
section
variable {X : Cx} {pins : List (Addr × Obj)} {σ : L2.St} {H : Hp} {s : Shared}
theorem seqX {b : Bool} {a : Addr} {xs : List V} (I : Inv X pins σ H s) (h : SqX X.K b H a xs) : ∃ its : List Value, Vals xs its ∧ IsX b s.heap a its.toArray ∧ a < s.heap.objs.size ∧ ∀ ys, SqX X.K b H a ys → ys = xs := by
  cases b with
  | true =>
    obtain ⟨its, r, p, _⟩ := I.list h
    exact ⟨its, r, p.isList, p.lt, fun ys q => I.list_inj q h⟩
  | false =>
    obtain ⟨its, r, p, _⟩ := I.tuple h
    obtain ⟨o, e, _⟩ := id p
    exact ⟨its, r, p, Heap.lt_size e, fun ys q => I.tuple_inj q h⟩
end
/-- pairs of f i and the i-th of xs .. -/
def ItP (G : Hp → Prop) (n : Nat) (Y : Nat → V → V → Prop) : It :=
  ⟨fun i H => G H ∧ i < n, fun i H v H' => ∃ T x y, v = .ref T ∧ H T = none ∧ H' = upd H T (.tup [x, y]) ∧ Y i x y, fun i H => G H ∧ i = n⟩
theorem turn_enumX {P : Program} {w : World} {K : Fg} {elts : List Expr} {kk : Nat} {tpos : Pos} (b : Bool) {a e it : Addr} {xs : List V} (h1 : e ≠ it) (h2 : a ≠ it) (h3 : e ≠ a) :
    Turn P w K (.Tuple elts kk tpos) (ItP (fun H => SqX K b H a xs) xs.length fun i x y => x = .int (i : Nat) ∧ xs[i]? = some y) [e, it] e
      (fun i h => (∃ old, IsEnum h e it (i : Int) old) ∧ ItrX b h it a i) where
  mem := by simp
  obj := fun i h st c hc => by
    obtain ⟨⟨old, he⟩, hi⟩ := st
    have e' : c = e ∨ c = it := by simpa using hc
    rcases e' with q | q
    · rw [q]; exact ⟨_, he, fun v q => nomatch q⟩
    · rw [q]; exact itrX_obj hi
  keep := fun i h h' st k => by
    obtain ⟨⟨old, he⟩, hi⟩ := st
    exact ⟨⟨old, k e (by simp) _ he⟩, itrX_at hi fun o q => k it (by simp) o q⟩
  item := by
    intro X hP hw hK hc i pins s σ H E I hf st hg
    subst hP hw hK
    obtain ⟨⟨old, he⟩, hi⟩ := st
    obtain ⟨hq, hlt⟩ := hg
    obtain ⟨its, rv, hl, hal, inj⟩ := seqX I hq
    have hh : X.A.in1.handled = none := I.ok.hd hc
    have W := WalksT.enumFrom (prog := X.prog) (w := X.w) (A := X.A) 0 (drawX b hh it a h2 its.toArray) e h1 (by simp [h1, h3]) (by simp)
    have hel : e < s.heap.objs.size := Heap.lt_size he
    have hil : it < s.heap.objs.size := by obtain ⟨o, q, _⟩ := itrX_obj hi; exact Heap.lt_size q
    have hn : i < its.toArray.size := by rw [List.size_toArray, ← rv.length]; exact hlt
    have z : (0 : Int) + (i : Int) = (i : Int) := by omega
    refine W.item i s _ _ hn ⟨⟨old, by rw [z]; exact he⟩, hi, hl⟩ fun T vals h' tk hP hT hTup hm hk => ?_
    obtain ⟨t, u, hu, rfl⟩ := hP
    refine ⟨_, rfl, W.go elts kk tpos i T { s with heap := h', toks := tk } _ _ hm fun h'' st'' hk2 => ?_⟩
    obtain ⟨_, _, hTe, hTi⟩ := hm
    have hTup2 : h''.IsTuple T #[.int (0 + (i : Int)) t, u] := hTup.at fun o q => hk2 T o (by simp [hTe, hTi]) q
    obtain ⟨x, hx⟩ : ∃ x, xs[i]? = some x := ⟨xs[i], by simp [hlt]⟩
    obtain ⟨u', hu', ru⟩ := rv.get hx
    have eu : u' = u := by
      have hu2 : its[i]? = some u := by simpa using hu
      rw [hu'] at hu2
      exact Option.some.inj hu2
    subst eu
    have new : ObjOk X.prog X.w (upd H T (.tup [.int (i : Nat), x])) h'' T (.tup [.int (i : Nat), x]) :=
      ⟨by show 2 ≤ sizeLine; decide, [.int (0 + (i : Int)) t, u'], .cons ⟨t, by rw [z]⟩ (.cons ru .nil), hTup2⟩
    have I1 : Inv X pins σ (upd H T (.tup [.int (i : Nat), x])) { s with heap := h'', toks := tk } :=
      I.turnedNew (ch := [e, it]) (fun c ob hb q => hk2 c ob hb (hk c ob hb q)) hf hT new
    refine ⟨.ref T, _, I1, rfl, ⟨T, _, x, rfl, I.hok.fresh hT, rfl, rfl, hx⟩, ⟨?_, ?_⟩, fun c hcm => ?_⟩
    · obtain ⟨⟨o2, q⟩, _⟩ := st''
      exact ⟨o2, by have zz : (0 : Int) + ((i + 1 : Nat) : Int) = ((i + 1 : Nat) : Int) := by omega
                    rw [zz] at q
                    exact q⟩
    · exact st''.2.1
    · have hlt2 : c < s.heap.objs.size := by
        have e' : c = e ∨ c = it := by simpa using hcm
        rcases e' with q | q
        · rw [q]; exact hel
        · rw [q]; exact hil
      rw [upd_ne (Nat.ne_of_lt (Nat.lt_of_lt_of_le hlt2 hT))]
      exact (hf c hcm).1
  done := by
    intro X hP hw hK hc i pins s σ H E I hf st hg
    subst hP hw hK
    obtain ⟨⟨old, he⟩, hi⟩ := st
    obtain ⟨hq, hlt⟩ := hg
    obtain ⟨its, rv, hl, hal, inj⟩ := seqX I hq
    have hh : X.A.in1.handled = none := I.ok.hd hc
    have W := WalksT.enumFrom (prog := X.prog) (w := X.w) (A := X.A) 0 (drawX b hh it a h2 its.toArray) e h1 (by simp [h1, h3]) (by simp)
    have z : (0 : Int) + (i : Int) = (i : Int) := by omega
    have hn : its.toArray.size = i := by rw [List.size_toArray, ← rv.length]; exact hlt.symm
    refine W.done s _ _ ?_ fun h' tk hk => ⟨rfl, ?_⟩
    · rw [hn]
      exact ⟨⟨old, by rw [z]; exact he⟩, hi, hl⟩
    · exact I.turnedL (ch := [e, it]) (t' := tk) (fun c o hb q => hk c o hb q) hf
  self := fun A i s Q E st h => let ⟨⟨_, he⟩, _⟩ := st; wpAny_pyIter_enum he h
end Ev

set_option linter.all false
set_option maxHeartbeats 2000000
set_option maxRecDepth 100000
namespace Ev
open PySem PySem.Spec PyProof.Rows L2
theorem meets_enum1 {v : Value} {o : Obj} {H : Heap → Prop} (B : Begins v o H) :
    Meets (Builtin.«enumerate.__new__» ⟨[.type "enumerate", v], []⟩) (fun _ R s => H s.heap ∧
      R (.ok (.ret (.ref (s.heap.push o).objs.size))) { s with heap := (s.heap.push o).push { cls := .type "enumerate", data := .fields #[.none, .bool false, .ref s.heap.objs.size, rawInt 0, .none, .none] } }) :=
  .of_wp fun prog w A R s h => by
    obtain ⟨hp, g, d, tk, os⟩ := s; obtain ⟨h1, h⟩ := h
    have hsub := sub_enumerate
    have q1 : ∀ {A' : Around} {E : Value → Shared → Prop} {Q : Value → Shared → Prop}, Q (.ref hp.objs.size) ⟨hp.push o, g, d, tk, os⟩ → wpAny (model prog w) A' (pyIter v) Q E ⟨hp, g, d, tk, os⟩ :=
      fun q => B.iter prog w _ _ ⟨hp, g, d, tk, os⟩ _ h1 q
    wp_walk using q1
    refine wpAny_stack_any fun st => wpAny_pure ?_
    split
    · rename_i c _ _ _ _ _
      cases (c == Value.type "enumerate")
      · wp_walk using q1
        exact ⟨_, rfl, h⟩
      · wp_walk using q1
        exact ⟨_, rfl, h⟩
    · wp_walk using q1
      exact ⟨_, rfl, h⟩
theorem call_enum1 {prog : Program} {w : World} {A : Around} {E : Value → Shared → Prop} {s : Shared} {v : Value} {o : Obj} {H : Heap → Prop} {Q : Value → Shared → Prop} (B : Begins v o H) (h1 : H s.heap)
    (h : ∀ h', IsEnum h' (s.heap.objs.size + 1) s.heap.objs.size 0 .none → h'.get? s.heap.objs.size = some o → h'.objs.size = s.heap.objs.size + 2 →
      (∀ b o, s.heap.get? b = some o → h'.get? b = some o) → Q (.ref (s.heap.objs.size + 1)) { s with heap := h' }) :
    wpAny (model prog w) A (call (.type "enumerate") [v]) Q E s := by
  refine callType_new F.called_enumerate (by decide) (F.typeCall_enumerate_1 _) (F.newCall_enumerate_1 _) (fun obj => F.args_object_init_2 obj _) F.entry_enumerate_new
    (meets_enum1 B) ⟨h1, ?_⟩
  have hz : (s.heap.push o).objs.size = s.heap.objs.size + 1 := Heap.size_push ..
  show _ ∧ _
  rw [hz]
  have he : IsEnum ((s.heap.push o).push
      { cls := .type "enumerate", data := .fields #[.none, .bool false, .ref s.heap.objs.size, rawInt 0, .none, .none] }) (s.heap.objs.size + 1) s.heap.objs.size 0 .none := by
    have := Heap.get?_push_size (s.heap.push o)
      (o := { cls := .type "enumerate", data := .fields #[.none, .bool false, .ref s.heap.objs.size, rawInt 0, .none, .none] }) rfl
    rw [hz] at this; exact this
  refine ⟨⟨_, he, rfl⟩, h _ he (Heap.get?_push_of_some _ (Heap.get?_push_size _ B.free)) (by rw [Heap.size_push, hz]) fun b o x => Heap.get?_push_of_some _ (Heap.get?_push_of_some _ x)⟩
def iEnumX (K : Fg) (ta : TA) : TI := fun σ H R => ta σ H fun vs H1 => ∃ b a xs, vs = [.ref a] ∧ SqX K b H1 a xs ∧ R (ItP (fun H => SqX K b H a xs) xs.length fun i x y => x = .int (i : Nat) ∧ xs[i]? = some y) H1
theorem pi_enumX {X : Cx} {e : Expr} {ta : TA} {p pos tpos : Pos} {elts : List Expr} {kk : Nat} (hg : Gl X "enumerate") (hm : X.mg "enumerate" = none) (ha : PA X [e] ta) (hs : starEach [e] X.env = [(false, eval e X.env)]) :
    PI X (.Tuple elts kk tpos) (.Call (.Name "enumerate" p) [e] [] pos) (iEnumX X.K ta) := by
  refine ⟨fun pins s σ H R I h => ?_⟩
  refine Call_ (ld_blt I hg hm boot_enumerate (PyProof.Rows.callWith_type1 (thn (ha.run pos pins s σ H _ I h) fun us s1 ⟨vs, H1, I1, r1, q1⟩ => ?_) hs rfl))
  obtain ⟨b, a, xs, ex, hq, q⟩ := q1
  subst ex
  cases r1 with
  | cons r rr =>
    cases rr
    cases r
    obtain ⟨its, rv, hl, hal, inj⟩ := seqX I1 hq
    refine call_enum1 (begX b a its.toArray) hl fun h' he hit hsz hk => wpAny_pyIter_enum he ?_
    have I2 : Inv X pins σ H1 { s1 with heap := h' } := I1.kept (t' := s1.toks) hk
    refine ⟨s1.heap.objs.size + 1, [s1.heap.objs.size + 1, s1.heap.objs.size], _, _, H1, rfl, I2, turn_enumX b (Nat.succ_ne_self _) (Nat.ne_of_lt hal) (Nat.ne_of_gt (Nat.lt_succ_of_lt hal)), ⟨⟨.none, he⟩, itrX_new hit⟩, fun c hb => ?_, q⟩
    have e' : c = s1.heap.objs.size + 1 ∨ c = s1.heap.objs.size := by simpa using hb
    have hle : s1.heap.objs.size ≤ c := by
      rcases e' with z | z
      · rw [z]; exact Nat.le_add_right _ _
      · rw [z]; exact Nat.le_refl _
    exact I1.fpOk hle (I1.hok.fresh hle)

structure Apart5 (z TI TO i1 i2 a c : Addr) : Prop where
  TIz : TI ≠ z
  TOz : TO ≠ z
  TITO : TI ≠ TO
  TIi1 : TI ≠ i1
  TIi2 : TI ≠ i2
  i1z : i1 ≠ z
  i2z : i2 ≠ z
  i1TO : i1 ≠ TO
  i2TO : i2 ≠ TO
  i12 : i1 ≠ i2
  az : a ≠ z
  aTO : a ≠ TO
  ai1 : a ≠ i1
  ai2 : a ≠ i2
  cz : c ≠ z
  cTO : c ≠ TO
  ci1 : c ≠ i1
  ci2 : c ≠ i2
theorem Apart5.sep {z TI TO i1 i2 a c : Addr} (D : Apart5 z TI TO i1 i2 a c) : ZipSep2 z TI TO i1 i2 [i1, a] [i2, c] where
  TIz := D.TIz
  TOz := D.TOz
  TITO := D.TITO
  TIi1 := D.TIi1
  mem1 := by simp
  zf1 := by simp [D.i1z.symm, D.az.symm]
  Tf1 := by simp [D.i1TO.symm, D.aTO.symm]
  TIi2 := D.TIi2
  mem2 := by simp
  zf2 := by simp [D.i2z.symm, D.cz.symm]
  Tf2 := by simp [D.i2TO.symm, D.cTO.symm]
  sep1_2 := by simp [D.i12, D.ci1.symm]
  sep2_1 := by simp [D.i12.symm, D.ai2.symm]
theorem turn_zipX {P : Program} {w : World} {K : Fg} {elts : List Expr} {kk : Nat} {tpos : Pos} (b1 b2 : Bool) {a c z TI TO i1 i2 : Addr} {xs ys : List V} (D : Apart5 z TI TO i1 i2 a c) :
    Turn P w K (.Tuple elts kk tpos) (ItP (fun H => SqX K b1 H a xs ∧ SqX K b2 H c ys) (min xs.length ys.length) fun i x y => xs[i]? = some x ∧ ys[i]? = some y) [z, TI, TO, i1, i2] z
      (fun i h => IsZip h z TI TO .none ∧ IsTupOf2 h TI (.ref i1) (.ref i2) ∧ (∃ a1 a2, IsTupOf2 h TO a1 a2) ∧ ItrX b1 h i1 a i ∧ ItrX b2 h i2 c i) where
  mem := by simp
  obj := fun i h st k hk => by
    obtain ⟨hz, hTI, ⟨x, y, hTO⟩, h1, h2⟩ := st
    have e' : k = z ∨ k = TI ∨ k = TO ∨ k = i1 ∨ k = i2 := by simpa using hk
    rcases e' with q | q | q | q | q
    · rw [q]; exact ⟨_, hz, fun v q => nomatch q⟩
    · rw [q]; exact ⟨_, hTI, fun v q => nomatch q⟩
    · rw [q]; exact ⟨_, hTO, fun v q => nomatch q⟩
    · rw [q]; exact itrX_obj h1
    · rw [q]; exact itrX_obj h2
  keep := fun i h h' st k => by
    obtain ⟨hz, hTI, ⟨x, y, hTO⟩, h1, h2⟩ := st
    exact ⟨k z (by simp) _ hz, k TI (by simp) _ hTI, ⟨x, y, k TO (by simp) _ hTO⟩, itrX_at h1 fun o q => k i1 (by simp) o q, itrX_at h2 fun o q => k i2 (by simp) o q⟩
  item := by
    intro X hP hw hK hc i pins s σ H E I hf st hg
    subst hP hw hK
    obtain ⟨hz, hTI, hTO, h1, h2⟩ := st
    obtain ⟨⟨hq1, hq2⟩, hlt⟩ := hg
    obtain ⟨its, rv, hl, hal, _⟩ := seqX I hq1
    obtain ⟨its2, rv2, hl2, hal2, _⟩ := seqX I hq2
    have hh : X.A.in1.handled = none := I.ok.hd hc
    have W := WalksT.zipD2 (prog := X.prog) (w := X.w) (A := X.A) D.sep (drawX b1 hh i1 a D.ai1 its.toArray) (drawX b2 hh i2 c D.ci2 its2.toArray)
    have hn : i < min its.toArray.size its2.toArray.size := by rw [List.size_toArray, List.size_toArray, ← rv.length, ← rv2.length]; exact hlt
    have hl1 : i < xs.length := by omega
    have hl22 : i < ys.length := by omega
    refine W.item i s _ _ hn ⟨hz, hTI, hTO, ⟨h1, hl⟩, ⟨h2, hl2⟩⟩ fun T vals h' tk hP hT hTup hm hk => ?_
    obtain ⟨u1, u2, hu1, hu2, rfl⟩ := hP
    refine ⟨_, rfl, W.go elts kk tpos i T { s with heap := h', toks := tk } _ _ hm fun h'' st'' hk2 => ?_⟩
    have nT := W.apart i T h' hm
    have hTup2 : h''.IsTuple T #[u1, u2] := hTup.at fun o q => hk2 T o nT q
    obtain ⟨x, hx⟩ : ∃ x, xs[i]? = some x := ⟨xs[i], by simp [hl1]⟩
    obtain ⟨y, hy⟩ : ∃ y, ys[i]? = some y := ⟨ys[i], by simp [hl22]⟩
    obtain ⟨u1', hu1', ru1⟩ := rv.get hx
    obtain ⟨u2', hu2', ru2⟩ := rv2.get hy
    have e1 : u1' = u1 := by
      have q : its[i]? = some u1 := by simpa using hu1
      rw [hu1'] at q
      exact Option.some.inj q
    have e2 : u2' = u2 := by
      have q : its2[i]? = some u2 := by simpa using hu2
      rw [hu2'] at q
      exact Option.some.inj q
    subst e1 e2
    have new : ObjOk X.prog X.w (upd H T (.tup [x, y])) h'' T (.tup [x, y]) := ⟨by show 2 ≤ sizeLine; decide, [u1', u2'], .cons ru1 (.cons ru2 .nil), hTup2⟩
    have hkk : ∀ k o, k ∉ [z, TI, TO, i1, i2] → s.heap.get? k = some o → h''.get? k = some o := fun k o hb q => by
      have nb : k ∉ [z, TO, i1, i2] := fun q' => hb (by
        have e' : k = z ∨ k = TO ∨ k = i1 ∨ k = i2 := by simpa using q'
        rcases e' with r | r | r | r <;> simp [r])
      exact hk2 k o nb (hk k o nb q)
    have I1 : Inv X pins σ (upd H T (.tup [x, y])) { s with heap := h'', toks := tk } := I.turnedNew (ch := [z, TI, TO, i1, i2]) hkk hf hT new
    have zlt : z < s.heap.objs.size := Heap.lt_size hz
    have TIlt : TI < s.heap.objs.size := Heap.lt_size hTI
    have TOlt : TO < s.heap.objs.size := by obtain ⟨_, _, q⟩ := hTO; exact Heap.lt_size q
    have i1lt : i1 < s.heap.objs.size := by obtain ⟨_, q, _⟩ := itrX_obj h1; exact Heap.lt_size q
    have i2lt : i2 < s.heap.objs.size := by obtain ⟨_, q, _⟩ := itrX_obj h2; exact Heap.lt_size q
    refine ⟨.ref T, _, I1, rfl, ⟨T, x, y, rfl, I.hok.fresh hT, rfl, hx, hy⟩, ⟨st''.1, st''.2.1, st''.2.2.1, st''.2.2.2.1.1, st''.2.2.2.2.1⟩, fun k hcm => ?_⟩
    have hlt2 : k < s.heap.objs.size := by
      have e' : k = z ∨ k = TI ∨ k = TO ∨ k = i1 ∨ k = i2 := by simpa using hcm
      rcases e' with q | q | q | q | q <;> (rw [q]; assumption)
    rw [upd_ne (Nat.ne_of_lt (Nat.lt_of_lt_of_le hlt2 hT))]
    exact (hf k hcm).1
  done := by
    intro X hP hw hK hc i pins s σ H E I hf st hg
    subst hP hw hK
    obtain ⟨hz, hTI, hTO, h1, h2⟩ := st
    obtain ⟨⟨hq1, hq2⟩, hlt⟩ := hg
    obtain ⟨its, rv, hl, hal, _⟩ := seqX I hq1
    obtain ⟨its2, rv2, hl2, hal2, _⟩ := seqX I hq2
    have hh : X.A.in1.handled = none := I.ok.hd hc
    have W := WalksT.zipD2 (prog := X.prog) (w := X.w) (A := X.A) D.sep (drawX b1 hh i1 a D.ai1 its.toArray) (drawX b2 hh i2 c D.ci2 its2.toArray)
    have hn : min its.toArray.size its2.toArray.size = i := by rw [List.size_toArray, List.size_toArray, ← rv.length, ← rv2.length]; exact hlt.symm
    refine W.done s _ _ ?_ fun h' tk hk => ⟨rfl, ?_⟩
    · rw [hn]
      exact ⟨hz, hTI, hTO, ⟨h1, hl⟩, ⟨h2, hl2⟩⟩
    · refine I.turnedL (ch := [z, TI, TO, i1, i2]) (t' := tk) (fun k o hb q => hk k o (fun q' => hb (by
        have e' : k = z ∨ k = TO ∨ k = i1 ∨ k = i2 := by simpa using q'
        rcases e' with r | r | r | r <;> simp [r])) q) hf
  self := fun A i s Q E st h => wpAny_pyIter_zip st.1 h
def iZipX (K : Fg) (ta : TA) : TI := fun σ H R => ta σ H fun vs H1 => ∃ b1 b2 a c xs ys, vs = [.ref a, .ref c] ∧ SqX K b1 H1 a xs ∧ SqX K b2 H1 c ys ∧
  R (ItP (fun H => SqX K b1 H a xs ∧ SqX K b2 H c ys) (min xs.length ys.length) fun i x y => xs[i]? = some x ∧ ys[i]? = some y) H1
theorem pi_zipX {X : Cx} {e e2 : Expr} {ta : TA} {p pos tpos : Pos} {elts : List Expr} {kk : Nat} (hg : Gl X "zip") (hm : X.mg "zip" = none) (ha : PA X [e, e2] ta)
    (hs : starEach [e, e2] X.env = (false, eval e X.env) :: starEach [e2] X.env) (hpl : (backTo pos (starEach [e2] X.env)).any (·.1) = false) :
    PI X (.Tuple elts kk tpos) (.Call (.Name "zip" p) [e, e2] [] pos) (iZipX X.K ta) := by
  refine ⟨fun pins s σ H R I h => ?_⟩
  refine Call_ (ld_blt I hg hm PyProof.Rows.boot_zip (PyProof.Rows.callWith_type1 (thn (ha.run pos pins s σ H _ I h) fun us s1 ⟨vs, H1, I1, r1, q1⟩ => ?_) hs hpl))
  obtain ⟨b1, b2, a, c, xs, ys, ex, hq1, hq2, q⟩ := q1
  subst ex
  cases r1 with
  | cons r rr =>
    cases rr with
    | cons r' rr =>
      cases rr
      cases r
      cases r'
      obtain ⟨its, rv, hl, hal, _⟩ := seqX I1 hq1
      obtain ⟨its2, rv2, hl2, hal2, _⟩ := seqX I1 hq2
      refine zip_begins2 (begX b1 a its.toArray) (begX b2 c its2.toArray) hl hl2 fun h' hz hTI hTO h1 h2 hsz hk => wpAny_pyIter_zip hz ?_
      have I2 : Inv X pins σ H1 { s1 with heap := h' } := I1.kept (t' := s1.toks) hk
      have D : Apart5 (s1.heap.objs.size + 4) (s1.heap.objs.size + 2) (s1.heap.objs.size + 3) s1.heap.objs.size (s1.heap.objs.size + 1) a c := by
        have ap : ∀ n x y : Nat, x < n → y < n → Apart5 (n + 4) (n + 2) (n + 3) n (n + 1) x y := fun n x y hx hy => by
          constructor <;> (show (_ : Nat) ≠ _) <;> omega
        exact ap _ _ _ hal hal2
      refine ⟨s1.heap.objs.size + 4, [s1.heap.objs.size + 4, s1.heap.objs.size + 2, s1.heap.objs.size + 3, s1.heap.objs.size, s1.heap.objs.size + 1], _, _, H1, rfl, I2, turn_zipX b1 b2 D, ⟨hz, hTI, ⟨_, _, hTO⟩, itrX_new h1, itrX_new h2⟩, fun k hcm => ?_, q⟩
      have hle : s1.heap.objs.size ≤ k := by
        have e' : k = s1.heap.objs.size + 4 ∨ k = s1.heap.objs.size + 2 ∨ k = s1.heap.objs.size + 3 ∨ k = s1.heap.objs.size ∨ k = s1.heap.objs.size + 1 := by simpa using hcm
        rcases e' with z | z | z | z | z
        · rw [z]; exact Nat.le_add_right _ _
        · rw [z]; exact Nat.le_add_right _ _
        · rw [z]; exact Nat.le_add_right _ _
        · rw [z]; exact Nat.le_refl _
        · rw [z]; exact Nat.le_add_right _ _
      exact I1.fpOk hle (I1.hok.fresh hle)
end Ev

set_option linter.all false
set_option maxHeartbeats 2000000
/-! Readings of expressions by the evaluator. -/
namespace Ev
open PySem PySem.Spec PyProof.Rows L2

theorem PE.imp {X : Cx} {e : Expr} {t t' : TE} (h : PE X e t) (w : ∀ σ H Q, t' σ H Q → t σ H Q) : PE X e t' := ⟨fun pins s σ H Q I q => h.run pins s σ H Q I (w σ H Q q)⟩
theorem PT.imp {X : Cx} {e : Expr} {t t' : TT} (h : PT X e t) (w : ∀ σ H Q, t' σ H Q → t σ H Q) : PT X e t' := ⟨fun pins s σ H Q I q => h.run pins s σ H Q I (w σ H Q q)⟩
theorem PW.imp {X : Cx} {e : Expr} {t t' : TT} (h : PW X e t) (w : ∀ σ H Q, t' σ H Q → t σ H Q) : PW X e t' := ⟨fun wh pins s σ H Q I q => h.run wh pins s σ H Q I (w σ H Q q)⟩
theorem PA.imp {X : Cx} {e : List Expr} {t t' : TA} (h : PA X e t) (w : ∀ σ H Q, t' σ H Q → t σ H Q) : PA X e t' := ⟨fun p pins s σ H Q I q => h.run p pins s σ H Q I (w σ H Q q)⟩
theorem PI.imp {X : Cx} {tg e : Expr} {t t' : TI} (h : PI X tg e t) (w : ∀ σ H Q, t' σ H Q → t σ H Q) : PI X tg e t' := ⟨fun pins s σ H Q I q => h.run pins s σ H Q I (w σ H Q q)⟩
theorem PG.imp {X : Cx} {e : Expr} {t t' : TG} (h : PG X e t) (w : ∀ v σ H Q, t' v σ H Q → t v σ H Q) : PG X e t' := by
  obtain ⟨h⟩ := h
  exact ⟨by intros; apply h <;> first | assumption | (apply w; assumption)⟩
theorem PE.or {X : Cx} {e : Expr} {t t' : TE} (h : PE X e t) (h' : PE X e t') : PE X e (fun σ H Q => t σ H Q ∨ t' σ H Q) := ⟨fun pins s σ H Q I q => q.elim (h.run pins s σ H Q I) (h'.run pins s σ H Q I)⟩
theorem PT.or {X : Cx} {e : Expr} {t t' : TT} (h : PT X e t) (h' : PT X e t') : PT X e (fun σ H Q => t σ H Q ∨ t' σ H Q) := ⟨fun pins s σ H Q I q => q.elim (h.run pins s σ H Q I) (h'.run pins s σ H Q I)⟩
theorem PI.or {X : Cx} {tg e : Expr} {t t' : TI} (h : PI X tg e t) (h' : PI X tg e t') : PI X tg e (fun σ H Q => t σ H Q ∨ t' σ H Q) := ⟨fun pins s σ H Q I q => q.elim (h.run pins s σ H Q I) (h'.run pins s σ H Q I)⟩

/-- the readings: the evaluator comes to an end, and whatever stands for it is fine -/
def RdE (K : Fg) (B : Bs) (g : Env → Res TV) : TE := fun σ H Q => ∃ F r, StR K B F H σ r ∧ ∃ t r', g r = .ok t r' ∧ ∀ x F' H', Post K B σ r F H r' F' H' → TvR K H σ F' H' t x → Q x H'
def RdC (K : Fg) (B : Bs) (g : Env → Res Bool) : TT := fun σ H Q => ∃ F r, StR K B F H σ r ∧ ∃ t r', g r = .ok t r' ∧ ∀ F' H', Post K B σ r F H r' F' H' → Q t H'
def RdA (K : Fg) (B : Bs) (g : Env → Res (List D)) : TA := fun σ H Q => ∃ F r, StR K B F H σ r ∧ ∃ t r', g r = .ok t r' ∧ ∀ xs F' H', Post K B σ r F H r' F' H' → RpL K F' xs t → Q xs H'
/-- an iterator over the data ds -/
structure WkD (K : Fg) (F : Hp) (J : It) (ds : List D) : Prop where
  goes : ∀ i H, i < ds.length → Sub F H → J.go i H
  stops : ∀ H, Sub F H → J.stop ds.length H
  yields : ∀ i H x H', i < ds.length → Sub F H → J.yld i H x H' → ∃ d, ds[i]? = some d ∧ Out K F H (.d d) x H'
def RdI (K : Fg) (B : Bs) (g : Env → Res (List D)) : TI := fun σ H R => ∃ F r, StR K B F H σ r ∧ ∃ t r', g r = .ok t r' ∧ ∀ J F' H', Post K B σ r F H r' F' H' → WkD K F' J t → R J H'

theorem StR.ne {K : Fg} {B : Bs} {F H : Hp} {σ : L2.St} {r : Env} (s : StR K B F H σ r) : ∀ a, Own σ r a → H a ≠ none := fun a h => by
  obtain ⟨o, e, _⟩ := s.ownH h
  rw [e]
  simp
theorem TvR.back {K : Fg} {H0 H1 : Hp} {σ : L2.St} {F H : Hp} {t : TV} {x : V} (h : TvR K H1 σ F H t x) (d : ∀ a, H0 a ≠ none → H1 a ≠ none) : TvR K H0 σ F H t x := by
  cases t with
  | d v => exact h
  | s i => exact h
  | f v =>
    obtain ⟨p, o, e, e1, e2, e3, e4⟩ := h
    exact ⟨p, o, e, e1, e2, e3, Classical.byContradiction fun n => d p n e4⟩
theorem Post.ne {K : Fg} {B : Bs} {σ : L2.St} {r r1 : Env} {F H F1 H1 : Hp} (p : Post K B σ r F H r1 F1 H1) (s : StR K B F H σ r) : ∀ a, Own σ r1 a → H a ≠ none := fun a h => s.ne a (p.own a h)

/-- an expression's value is given away -/
theorem solid_post {K : Fg} {B : Bs} {σ : L2.St} {r r1 r2 : Env} {F H F1 H1 : Hp} {t : TV} {x : V} {d : D} (s : StR K B F H σ r) (p : Post K B σ r F H r1 F1 H1) (h : TvR K H σ F1 H1 t x) (e : solid r1 t = some (d, r2)) :
    ∃ F2, Post K B σ r F H r2 F2 H1 ∧ Rp K F2 x d ∧ Sub F1 F2 := by
  obtain ⟨F2, h1, h2, h3, h4, h5⟩ := solid_rp p.st (p.ne s) h e
  refine ⟨F2, ⟨h2, p.mono.trans h3, p.frame, p.dom, fun a q => ?_, fun a q => p.own a (h5 a q)⟩, h1, h3⟩
  rcases h4 a q with z | z | z
  · exact p.fr a z
  · exact .inr (.inl z)
  · exact .inr (.inr (p.own a z))
theorem solidR_ok {r r' : Env} {t : TV} {d : D} (e : solidR r t = .ok d r') : solid r t = some (d, r') := by
  unfold solidR at e
  split at e
  · cases e; assumption
  · cases e
theorem bind_inv {α β : Type} {m : Res α} {f : α → Env → Res β} {b : β} {r : Env} (h : m.bind f = .ok b r) : ∃ a r1, m = .ok a r1 ∧ f a r1 = .ok b r := by
  cases m with
  | ok a r1 => exact ⟨a, r1, rfl, h⟩
  | exc c d r1 => cases h
  | stuck => cases h
theorem of_inv {α : Type} {o : Option α} {r r' : Env} {a : α} (h : Res.of o r = .ok a r') : o = some a ∧ r = r' := by
  unfold Res.of at h
  split at h
  · cases h; exact ⟨rfl, rfl⟩
  · cases h

section
variable {X : Cx} {B : Bs} {e a b c : Expr} {pos : Pos} {f g h : Env → Res TV}
theorem rd_var {i : Nat} {x : Str} (hN : X.N[i]? = some x) (hv : Vis X.env.scope x) (hd : (x == ("__debug__" : Str)) = false) (hcd : (x == ("__classdict__" : Str)) = false) (call : Nat → List Sl → CR) :
    PE X (.Name x pos) (RdE X.K B (ev call (.var i)).1) := by
  refine PE.imp (pe_var hN hv hd hcd) fun σ H Q ⟨F, r, s, t, r', e, k⟩ => ?_
  simp only [ev, tst] at e
  split at e
  · cases e
    rename_i d hr
    obtain ⟨y, e1, e2⟩ := s.val i _ hr
    exact ⟨y, e1, k y F H (Post.refl s) e2⟩
  · cases e
    rename_i d hr
    obtain ⟨y, o, e1, _⟩ := s.obj i _ (.inl hr)
    exact ⟨_, e1, k _ F H (Post.refl s) e1⟩
  · cases e
    rename_i d hr
    obtain ⟨y, o, e1, _⟩ := s.obj i _ (.inr hr)
    exact ⟨_, e1, k _ F H (Post.refl s) e1⟩
  · cases e
theorem rd_two {h : TV → TV → Env → Res TV} (r2 : R2) (hq : ∀ σ F H r t u v r' x y Q, StR X.K B F H σ r → h t u r = .ok v r' →
      (∀ d, deref r t = some d → Rq X.K F H x d) → (∀ d, deref r u = some d → Rq X.K F H y d) →
      (∀ z F' H', Post X.K B σ r F H r' F' H' → TvR X.K H σ F' H' v z → Q z H') → r2 x y H Q)
    {σ : L2.St} {H : Hp} {Q : VK} (q : RdE X.K B (fun r => (f r).bind fun x r1 => (g r1).bind fun y r2 => h x y r2) σ H Q) : tOp r2 (RdE X.K B f) (RdE X.K B g) σ H Q := by
  obtain ⟨F, r, s, t, r', e, k⟩ := q
  obtain ⟨x, r1, e1, e⟩ := bind_inv e
  obtain ⟨y, r2', e2, e⟩ := bind_inv e
  refine ⟨F, r, s, x, r1, e1, fun xv F1 H1 p1 t1 => ⟨F1, r1, p1.st, y, r2', e2, fun yv F2 H2 p2 t2 => ?_⟩⟩
  have t1' := t1.keep p2 (p1.ne s)
  refine hq σ F2 H2 r2' x y t r' xv yv Q p2.st e (fun d q => deref_rq p2.st t1' q) (fun d q => deref_rq p2.st t2 q) fun z F3 H3 p3 t3 => ?_
  exact k z F3 H3 ((p1.trans p2).trans p3) (t3.back fun a q => p2.dom a (p1.dom a q))
theorem rd_bin (o : Bo) (ha : PE X a (RdE X.K B f)) (hb : PE X b (RdE X.K B g)) :
    PE X (.BinOp a (opB o) b pos) (RdE X.K B fun r => (f r).bind fun x r1 => (g r1).bind fun y r2 => match deref r2 x, deref r2 y with
      | some u, some v => .of (bop o u v) r2
      | _, _ => .stuck) := by
  refine PE.imp (pe_op (or_bop o) ha hb) fun σ H Q q => rd_two _ (fun σ F H r t u v r' x y Q s e hx hy k => ?_) q
  split at e
  · rename_i d1 d2 z1 z2
    obtain ⟨e1, rfl⟩ := of_inv e
    refine ⟨F, d1, d2, v, s.sub, hx _ z1, hy _ z2, e1, fun z H' o => ?_⟩
    obtain ⟨F', p, tv⟩ := o.post s
    exact k z F' H' p tv
  · cases e
theorem rd_cmp (hu : X.A.units + 65 < cLine) (o : Co) (hm : behindInMarks (opC o) b = false) (ha : PE X a (RdE X.K B f)) (hb : PE X b (RdE X.K B g)) :
    PE X (.Compare a [opC o] [b] pos) (RdE X.K B fun r => (f r).bind fun x r1 => (g r1).bind fun y r2 => match deref r2 x, deref r2 y with
      | some u, some v => .of ((cop o u v).map fun t => .d (.bool t)) r2
      | _, _ => .stuck) := by
  refine PE.imp (pe_cmpR (or_cop hu o) ha hb hm) fun σ H Q q => rd_two _ (fun σ F H r t u v r' x y Q s e hx hy k => ?_) q
  split at e
  · rename_i d1 d2 z1 z2
    obtain ⟨e1, rfl⟩ := of_inv e
    rw [Option.map_eq_some_iff] at e1
    obtain ⟨b, e1, rfl⟩ := e1
    exact ⟨F, d1, d2, b, s.sub, hx _ z1, hy _ z2, e1, k _ F H (Post.refl s) (.bl b)⟩
  · cases e
theorem rd_idx (hs : PlainIx b) (ha : PE X a (RdE X.K B f)) (hb : PE X b (RdE X.K B g)) :
    PE X (.Subscript a b pos) (RdE X.K B fun r => (f r).bind fun x r1 => (g r1).bind fun y r2 => match deref r2 x, deref r2 y with
      | some u, some v => .of ((idx u v).map .d) r2
      | _, _ => .stuck) := by
  refine PE.imp (pe_ix ix_idx ha hb hs) fun σ H Q q => rd_two _ (fun σ F H r t u v r' x y Q s e hx hy k => ?_) q
  split at e
  · rename_i d1 d2 z1 z2
    obtain ⟨e1, rfl⟩ := of_inv e
    rw [Option.map_eq_some_iff] at e1
    obtain ⟨b, e1, rfl⟩ := e1
    exact ⟨F, d1, d2, b, s.sub, hx _ z1, hy _ z2, e1, fun z hz => k _ F H (Post.refl s) hz⟩
  · cases e
/-- a test by the truth of a value -/
theorem rd_tst (he : ∀ whole, isTrue e X.env whole = (do let v ← whole; standAt e.pos; holding [v] (truthy v))) (ha : PE X e (RdE X.K B f)) : PT X e (RdC X.K B (tst f).2) := by
  refine PT.imp (pt_truth ha he) fun σ H Q ⟨F, r, s, t, r', e, k⟩ => ?_
  simp only [tst] at e
  obtain ⟨x, r1, e1, e⟩ := bind_inv e
  refine ⟨F, r, s, x, r1, e1, fun xv F1 H1 p1 t1 => ?_⟩
  split at e
  · rename_i d1 z1
    obtain ⟨e2, rfl⟩ := of_inv e
    exact ⟨t, truth_tru p1.st.sub (deref_rq p1.st t1 z1) e2, k F1 H1 p1⟩
  · cases e
/-- a comparison as a test -/
theorem rd_cmpT (hu : X.A.units + 65 < cLine) (o : Co) (hm : behindInMarks (opC o) b = false) (ha : PE X a (RdE X.K B f)) (hb : PE X b (RdE X.K B g)) :
    PT X (.Compare a [opC o] [b] pos) (RdC X.K B (tst fun r => (f r).bind fun x r1 => (g r1).bind fun y r2 => match deref r2 x, deref r2 y with
      | some u, some v => .of ((cop o u v).map fun t => .d (.bool t)) r2
      | _, _ => .stuck).2) := by
  refine PT.imp (pt_cmpR (or_cop hu o) ha hb hm) fun σ H Q q => ?_
  refine rd_two (h := fun x y r2 => match deref r2 x, deref r2 y with
      | some u, some v => .of ((cop o u v).map fun t => .d (.bool t)) r2
      | _, _ => .stuck) _ (fun σ F H r t u v r' x y Q s e hx hy k => ?_) ?_
  · split at e
    · rename_i d1 d2 z1 z2
      obtain ⟨e1, rfl⟩ := of_inv e
      rw [Option.map_eq_some_iff] at e1
      obtain ⟨b, e1, rfl⟩ := e1
      exact ⟨F, d1, d2, b, s.sub, hx _ z1, hy _ z2, e1, k _ F H (Post.refl s) (.bl b)⟩
    · cases e
  · obtain ⟨F, r, s, t, r', e, k⟩ := q
    simp only [tst] at e
    obtain ⟨x, r1, e1, e⟩ := bind_inv e
    refine ⟨F, r, s, x, r1, e1, fun z F' H' p tv => ?_⟩
    have key : ∃ bb : Bool, x = .d (.bool bb) := by
      obtain ⟨x1, r2, _, e1⟩ := bind_inv e1
      obtain ⟨y1, r3, _, e1⟩ := bind_inv e1
      split at e1
      · obtain ⟨e1, _⟩ := of_inv e1
        rw [Option.map_eq_some_iff] at e1
        obtain ⟨_, _, e1⟩ := e1
        exact ⟨_, e1.symm⟩
      · cases e1
    obtain ⟨bb, rfl⟩ := key
    cases tv
    obtain ⟨e2, rfl⟩ := of_inv e
    cases e2
    exact ⟨_, rfl, k F' H' p⟩
end
end Ev

set_option linter.all false
set_option maxHeartbeats 2000000
namespace Ev
open PySem PySem.Spec PyProof.Rows L2
section
variable {X : Cx} {B : Bs} {e a b c : Expr} {pos : Pos} {f g h : Env → Res TV} {fc gc : Env → Res Bool}
theorem rd_neg (ha : PE X a (RdE X.K B f)) : PE X (.UnaryOp .USub a pos) (RdE X.K B fun r => (f r).bind fun x r1 => match x with
      | .d (.int i) => .ok (.d (.int (-i))) r1
      | _ => .stuck) := by
  refine PE.imp (pe_un un_neg ha) fun σ H Q ⟨F, r, s, t, r', e, k⟩ => ?_
  obtain ⟨x, r1, e1, e⟩ := bind_inv e
  refine ⟨F, r, s, x, r1, e1, fun xv F1 H1 p1 t1 => ?_⟩
  split at e
  · cases e
    cases t1
    exact ⟨_, rfl, k _ F1 H1 p1 (.int _)⟩
  · cases e
theorem rd_not (ha : PE X a (RdE X.K B f)) : PE X (.UnaryOp .Not a pos) (RdE X.K B fun r => ((tst f).2 r).bind fun t r1 => .ok (.d (.bool (!t))) r1) := by
  refine PE.imp (pe_notT ha) fun σ H Q ⟨F, r, s, t, r', e, k⟩ => ?_
  obtain ⟨b, r1, e0, e⟩ := bind_inv e
  cases e
  simp only [tst] at e0
  obtain ⟨x, r2, e1, e2⟩ := bind_inv e0
  refine ⟨F, r, s, x, r2, e1, fun xv F1 H1 p1 t1 => ?_⟩
  split at e2
  · rename_i d1 z1
    obtain ⟨e3, rfl⟩ := of_inv e2
    exact ⟨b, truth_tru p1.st.sub (deref_rq p1.st t1 z1) e3, k _ F1 H1 p1 (.bl _)⟩
  · cases e2
theorem rd_notT (ha : PT X a (RdC X.K B fc)) : PT X (.UnaryOp .Not a pos) (RdC X.K B fun r => (fc r).bind fun t r1 => .ok (!t) r1) := by
  refine PT.imp (pt_not ha) fun σ H Q ⟨F, r, s, t, r', e, k⟩ => ?_
  obtain ⟨x, r1, e1, e⟩ := bind_inv e
  cases e
  exact ⟨F, r, s, x, r', e1, fun F1 H1 p1 => k F1 H1 p1⟩
theorem rd_andE (ha : PE X a (RdE X.K B f)) {rest : List Expr} (hb : PE X (.BoolOp .And (b :: rest) pos) (RdE X.K B g)) : PE X (.BoolOp .And (a :: b :: rest) pos) (RdE X.K B fun r => (f r).bind fun x r1 => match x with
      | .d (.bool true) => g r1
      | .d (.bool false) => .ok (.d (.bool false)) r1
      | _ => .stuck) := by
  refine PE.imp (pe_and ha hb) fun σ H Q ⟨F, r, s, t, r', e, k⟩ => ?_
  obtain ⟨x, r1, e1, e⟩ := bind_inv e
  refine ⟨F, r, s, x, r1, e1, fun xv F1 H1 p1 t1 => ?_⟩
  split at e
  · cases t1
    refine ⟨true, rfl, ?_⟩
    rw [if_pos rfl]
    exact ⟨F1, r1, p1.st, t, r', e, fun z F2 H2 p2 t2 => k z F2 H2 (p1.trans p2) (t2.back p1.dom)⟩
  · cases e
    cases t1
    refine ⟨false, rfl, ?_⟩
    rw [if_neg (by decide)]
    exact k _ F1 H1 p1 (.bl _)
  · cases e
theorem rd_orE (ha : PE X a (RdE X.K B f)) {rest : List Expr} (hb : PE X (.BoolOp .Or (b :: rest) pos) (RdE X.K B g)) : PE X (.BoolOp .Or (a :: b :: rest) pos) (RdE X.K B fun r => (f r).bind fun x r1 => match x with
      | .d (.bool true) => .ok (.d (.bool true)) r1
      | .d (.bool false) => g r1
      | _ => .stuck) := by
  refine PE.imp (pe_or ha hb) fun σ H Q ⟨F, r, s, t, r', e, k⟩ => ?_
  obtain ⟨x, r1, e1, e⟩ := bind_inv e
  refine ⟨F, r, s, x, r1, e1, fun xv F1 H1 p1 t1 => ?_⟩
  split at e
  · cases e
    cases t1
    refine ⟨true, rfl, ?_⟩
    rw [if_pos rfl]
    exact k _ F1 H1 p1 (.bl _)
  · cases t1
    refine ⟨false, rfl, ?_⟩
    rw [if_neg (by decide)]
    exact ⟨F1, r1, p1.st, t, r', e, fun z F2 H2 p2 t2 => k z F2 H2 (p1.trans p2) (t2.back p1.dom)⟩
  · cases e
theorem rd_one {op : BoolOp} (ha : PE X a (RdE X.K B f)) : PE X (.BoolOp op [a] pos) (RdE X.K B f) := pe_one ha
theorem rd_andC (ha : PT X a (RdC X.K B fc)) {rest : List Expr} (hb : PW X (.BoolOp .And (b :: rest) pos) (RdC X.K B gc)) : PW X (.BoolOp .And (a :: b :: rest) pos) (RdC X.K B fun r => (fc r).bind fun t r1 => match t with
      | true => gc r1
      | false => .ok false r1) := by
  refine PW.imp (pw_and ha hb) fun σ H Q ⟨F, r, s, t, r', e, k⟩ => ?_
  obtain ⟨x, r1, e1, e⟩ := bind_inv e
  refine ⟨F, r, s, x, r1, e1, fun F1 H1 p1 => ?_⟩
  cases x with
  | true =>
    rw [if_pos rfl]
    exact ⟨F1, r1, p1.st, t, r', e, fun F2 H2 p2 => k F2 H2 (p1.trans p2)⟩
  | false =>
    rw [if_neg (by decide)]
    cases e
    exact k F1 H1 p1
theorem rd_orC (ha : PT X a (RdC X.K B fc)) {rest : List Expr} (hb : PW X (.BoolOp .Or (b :: rest) pos) (RdC X.K B gc)) : PW X (.BoolOp .Or (a :: b :: rest) pos) (RdC X.K B fun r => (fc r).bind fun t r1 => match t with
      | true => .ok true r1
      | false => gc r1) := by
  refine PW.imp (pw_or ha hb) fun σ H Q ⟨F, r, s, t, r', e, k⟩ => ?_
  obtain ⟨x, r1, e1, e⟩ := bind_inv e
  refine ⟨F, r, s, x, r1, e1, fun F1 H1 p1 => ?_⟩
  cases x with
  | true =>
    rw [if_pos rfl]
    cases e
    exact k F1 H1 p1
  | false =>
    rw [if_neg (by decide)]
    exact ⟨F1, r1, p1.st, t, r', e, fun F2 H2 p2 => k F2 H2 (p1.trans p2)⟩
theorem rd_ifeE (hc : PT X c (RdC X.K B fc)) (ha : PE X a (RdE X.K B f)) (hb : PE X b (RdE X.K B g)) : PE X (.IfExp c a b pos) (RdE X.K B fun r => (fc r).bind fun t r1 => match t with
      | true => f r1
      | false => g r1) := by
  refine PE.imp (pe_ifExp hc ha hb) fun σ H Q ⟨F, r, s, t, r', e, k⟩ => ?_
  obtain ⟨x, r1, e1, e⟩ := bind_inv e
  refine ⟨F, r, s, x, r1, e1, fun F1 H1 p1 => ?_⟩
  cases x with
  | true =>
    rw [if_pos rfl]
    exact ⟨F1, r1, p1.st, t, r', e, fun z F2 H2 p2 t2 => k z F2 H2 (p1.trans p2) (t2.back p1.dom)⟩
  | false =>
    rw [if_neg (by decide)]
    exact ⟨F1, r1, p1.st, t, r', e, fun z F2 H2 p2 t2 => k z F2 H2 (p1.trans p2) (t2.back p1.dom)⟩
def tIfT (t ta tb : TT) : TT := fun σ H Q => t σ H fun c H1 => if c = true then ta σ H1 Q else tb σ H1 Q
theorem pt_ifExp {tc ta tb : TT} (hc : PT X c tc) (ha : PT X a ta) (hb : PT X b tb) : PT X (.IfExp c a b pos) (tIfT tc ta tb) := by
  refine ⟨fun pins s σ H Q I h => ?_⟩
  rw [arm_isTrue_IfExp]
  refine wpAny_bind (thn (hc.run pins s σ H _ I h) fun d s1 ⟨H1, I1, q1⟩ => ?_)
  cases d with
  | true => exact ha.run pins s1 σ H1 Q I1 q1
  | false => exact hb.run pins s1 σ H1 Q I1 q1
theorem rd_ifeC {ac bc : Env → Res Bool} (hc : PT X c (RdC X.K B fc)) (ha : PT X a (RdC X.K B ac)) (hb : PT X b (RdC X.K B bc)) : PT X (.IfExp c a b pos) (RdC X.K B fun r => (fc r).bind fun t r1 => match t with
      | true => ac r1
      | false => bc r1) := by
  refine PT.imp (pt_ifExp hc ha hb) fun σ H Q ⟨F, r, s, t, r', e, k⟩ => ?_
  obtain ⟨x, r1, e1, e⟩ := bind_inv e
  refine ⟨F, r, s, x, r1, e1, fun F1 H1 p1 => ?_⟩
  cases x with
  | true =>
    rw [if_pos rfl]
    exact ⟨F1, r1, p1.st, t, r', e, fun F2 H2 p2 => k F2 H2 (p1.trans p2)⟩
  | false =>
    rw [if_neg (by decide)]
    exact ⟨F1, r1, p1.st, t, r', e, fun F2 H2 p2 => k F2 H2 (p1.trans p2)⟩
/-! ### argument lists -/
theorem rd_nil : PA X [] (RdA X.K B fun r => .ok [] r) := PA.imp pa_nil fun σ H Q ⟨F, r, s, t, r', e, k⟩ => by
  cases e
  exact k [] F H (Post.refl s) .nil
theorem RpL.mono' {K : Fg} {F H : Hp} (s : Sub F H) {v : List V} {d : List D} (h : RpL K F v d) : RpL K H v d := h.mono s
theorem rd_cons {es : List Expr} {fa : Env → Res (List D)} (ha : PE X a (RdE X.K B f)) (hr : PA X es (RdA X.K B fa)) (hs : starEach (a :: es) X.env = (false, eval a X.env) :: starEach es X.env) :
    PA X (a :: es) (RdA X.K B fun r => (f r).bind fun x r1 => (solidR r1 x).bind fun v r2 => (fa r2).bind fun vs r3 => .ok (v :: vs) r3) := by
  refine PA.imp (pa_cons ha hr hs) fun σ H Q ⟨F, r, s, t, r', e, k⟩ => ?_
  obtain ⟨x, r1, e1, e⟩ := bind_inv e
  obtain ⟨v, r2, e2, e⟩ := bind_inv e
  obtain ⟨vs, r3, e3, e⟩ := bind_inv e
  cases e
  refine ⟨F, r, s, x, r1, e1, fun xv F1 H1 p1 t1 => ?_⟩
  obtain ⟨F2, p2, h2, m2⟩ := solid_post s p1 t1 (solidR_ok e2)
  refine ⟨F2, r2, p2.st, vs, r', e3, fun xs F3 H3 p3 h3 => ?_⟩
  exact k (xv :: xs) F3 H3 (p2.trans p3) (.cons (h2.mono p3.mono) h3)
theorem rd_tup {es : List Expr} {fa : Env → Res (List D)} {x1 : Nat} (ha : PA X es (RdA X.K B fa)) : PE X (.Tuple es x1 pos) (RdE X.K B fun r => (fa r).bind fun xs r1 => if xs.length ≤ SZ then .ok (.d (.tuple xs)) r1 else .stuck) := by
  refine PE.imp (pe_tup ha) fun σ H Q ⟨F, r, s, t, r', e, k⟩ => ?_
  obtain ⟨x, r1, e1, e⟩ := bind_inv e
  split at e
  · rename_i w
    cases e
    refine ⟨F, r, s, x, r', e1, fun xs F1 H1 p1 h1 => ⟨by rw [h1.length, ← szl]; exact w, fun p hp => ?_⟩⟩
    obtain ⟨F2, p2, t2⟩ := Out.post p1.st (.tup hp h1)
    exact k _ F2 _ (p1.trans p2) (t2.back p1.dom)
  · cases e
theorem rd_lst {es : List Expr} {fa : Env → Res (List D)} (ha : PA X es (RdA X.K B fa)) : PE X (.List es pos) (RdE X.K B fun r => (fa r).bind fun xs r1 => if xs.length ≤ SZ then .ok (.f (.list xs)) r1 else .stuck) := by
  refine PE.imp (pe_lst ha) fun σ H Q ⟨F, r, s, t, r', e, k⟩ => ?_
  obtain ⟨x, r1, e1, e⟩ := bind_inv e
  split at e
  · rename_i w
    cases e
    refine ⟨F, r, s, x, r', e1, fun xs F1 H1 p1 h1 => ⟨by rw [h1.length, ← szl]; exact w, fun p hp => ?_⟩⟩
    obtain ⟨F2, p2, t2⟩ := Out.post p1.st (.lst hp h1)
    exact k _ F2 _ (p1.trans p2) (t2.back p1.dom)
  · cases e
/-! ### slices -/
def RdO (K : Fg) (B : Bs) (g : Env → Res (Option D)) : TO := fun σ H Q => ∃ F r, StR K B F H σ r ∧ ∃ t r' o, g r = .ok t r' ∧ optI t = some o ∧ ∀ F' H', Post K B σ r F H r' F' H' → Q o H'
theorem PO.imp {eo : Option Expr} {t t' : TO} (h : PO X eo t) (w : ∀ σ H Q, t' σ H Q → t σ H Q) : PO X eo t' := ⟨fun pins s σ H Q I q => h.run pins s σ H Q I (w σ H Q q)⟩
theorem rd_no : PO X none (RdO X.K B fun r => .ok none r) := PO.imp po_none fun σ H Q ⟨F, r, s, t, r', o, e, eo, k⟩ => by
  cases e
  cases eo
  exact k F H (Post.refl s)
theorem rd_yes (ha : PE X a (RdE X.K B f)) : PO X (some a) (RdO X.K B fun r => (f r).bind fun x r1 => match deref r1 x with
      | some u => .ok (some u) r1
      | none => .stuck) := PO.imp (po_some ha) fun σ H Q ⟨F, r, s, t, r', o, e, eo, k⟩ => by
  obtain ⟨x, r1, e1, e⟩ := bind_inv e
  refine ⟨F, r, s, x, r1, e1, fun xv F1 H1 p1 t1 => ?_⟩
  split at e
  · rename_i u z
    cases e
    have hq := deref_rq p1.st t1 z
    unfold optI at eo
    split at eo
    · rename_i q
      cases q
    · rename_i i q
      cases q
      cases eo
      exact ⟨i, hq.int, k F1 H1 p1⟩
    · cases eo
  · cases e
theorem rd_slc {lo hi : Option Expr} {p2 : Pos} {fl fh : Env → Res (Option D)} (ha : PE X a (RdE X.K B f)) (hl : PO X lo (RdO X.K B fl)) (hh : PO X hi (RdO X.K B fh)) :
    PE X (.Subscript a (.Slice lo hi none p2) pos) (RdE X.K B fun r => (f r).bind fun x r1 => (fl r1).bind fun l r2 => (fh r2).bind fun h r3 =>
      match deref r3 x, optI l, optI h with
      | some u, some l', some h' => .of (slice l' h' u) r3
      | _, _, _ => .stuck) := by
  refine PE.imp (pe_slice sl_slc ha hl hh) fun σ H Q ⟨F, r, s, t, r', e, k⟩ => ?_
  obtain ⟨x, r1, e1, e⟩ := bind_inv e
  obtain ⟨l, r2, e2, e⟩ := bind_inv e
  obtain ⟨h, r3, e3, e⟩ := bind_inv e
  split at e
  · rename_i u l' h' z1 z2 z3
    obtain ⟨e4, rfl⟩ := of_inv e
    refine ⟨F, r, s, x, r1, e1, fun xv F1 H1 p1 t1 => ⟨F1, r1, p1.st, l, r2, l', e2, z2, fun F2 H2 p2 => ⟨F2, r2, p2.st, h, r3, h', e3, z3, fun F3 H3 p3 => ?_⟩⟩⟩
    have t3 := (t1.keep p2 (p1.ne s)).keep p3 fun a q => p1.ne s a (p2.own a q)
    refine ⟨F3, u, t, p3.st.sub, deref_rq p3.st t3 z1, e4, fun z H' o => ?_⟩
    obtain ⟨F4, p4, t4⟩ := o.post p3.st
    exact k z F4 H' (((p1.trans p2).trans p3).trans p4) (t4.back fun a q => p3.dom a (p2.dom a (p1.dom a q)))
  · cases e
end
end Ev

set_option linter.all false
set_option maxHeartbeats 2000000
namespace Ev
open PySem PySem.Spec PyProof.Rows L2
def plainE : Expr → Bool
  | .Starred _ _ => false
  | _ => true
theorem star_cons {e : Expr} {es : List Expr} {env : PySem.Env} (h : plainE e = true) : starEach (e :: es) env = (false, eval e env) :: starEach es env := by
  cases e <;> first | rfl | (simp [plainE] at h)
theorem star_any {env : PySem.Env} {pos : Pos} : ∀ {es : List Expr}, es.all plainE = true → (backTo pos (starEach es env)).any (·.1) = false
  | [], _ => rfl
  | e :: es, h => by
    rw [List.all_cons, Bool.and_eq_true] at h
    rw [star_cons h.1]
    have ih := star_any (env := env) (pos := pos) h.2
    show (false || (backTo pos (starEach es env)).any (·.1)) = false
    rw [ih]
    rfl
section
variable {X : Cx} {B : Bs} {e a b c : Expr} {pos : Pos} {f g h : Env → Res TV} {fc gc : Env → Res Bool}
/-- a test by a value that is a bool -/
theorem rd_tTest {gv : Env → Res TV} (hb : ∀ r t r', gv r = .ok t r' → ∃ bb : Bool, t = .d (.bool bb)) {σ : L2.St} {H : Hp} {Q : Bool → Hp → Prop} (q : RdC X.K B (tst gv).2 σ H Q) : RdE X.K B gv σ H (fun x H' => ∃ k, x = .bl k ∧ Q k H') := by
  obtain ⟨F, r, s, t, r', e, k⟩ := q
  simp only [tst] at e
  obtain ⟨x, r1, e1, e⟩ := bind_inv e
  refine ⟨F, r, s, x, r1, e1, fun z F' H' p tv => ?_⟩
  obtain ⟨bb, rfl⟩ := hb _ _ _ e1
  cases tv
  obtain ⟨e2, rfl⟩ := of_inv e
  cases e2
  exact ⟨_, rfl, k F' H' p⟩
/-! ### chains -/
abbrev chnG (o p : Co) (f g h : Env → Res TV) : Env → Res TV := fun r => (f r).bind fun x r1 => (g r1).bind fun y r2 =>
      match deref r2 x, deref r2 y with
      | some u, some v => match cop o u v with
        | some true => (h r2).bind fun z r3 => match deref r3 y, deref r3 z with
          | some v', some w => .of ((cop p v' w).map fun t => .d (.bool t)) r3
          | _, _ => .stuck
        | some false => .ok (.d (.bool false)) r2
        | none => .stuck
      | _, _ => .stuck
theorem chn_bool {o p : Co} (r : Env) (t : TV) (r' : Env) (e : chnG o p f g h r = .ok t r') : ∃ bb : Bool, t = .d (.bool bb) := by
  obtain ⟨x, r1, _, e⟩ := bind_inv e
  obtain ⟨y, r2, _, e⟩ := bind_inv e
  split at e
  · split at e
    · obtain ⟨z, r3, _, e⟩ := bind_inv e
      split at e
      · obtain ⟨e, _⟩ := of_inv e
        rw [Option.map_eq_some_iff] at e
        obtain ⟨_, _, e⟩ := e
        exact ⟨_, e.symm⟩
      · cases e
    · cases e
      exact ⟨_, rfl⟩
    · cases e
  · cases e
theorem chn_imp {o p : Co} {σ : L2.St} {H : Hp} {Q : VK} (q : RdE X.K B (chnG o p f g h) σ H Q) : tChain (rCo X.K o) (rCo X.K p) (RdE X.K B f) (RdE X.K B g) (RdE X.K B h) σ H Q := by
  obtain ⟨F, r, s, t, r', e, k⟩ := q
  obtain ⟨x, r1, e1, e⟩ := bind_inv e
  obtain ⟨y, r2, e2, e⟩ := bind_inv e
  refine ⟨F, r, s, x, r1, e1, fun xv F1 H1 p1 t1 => ⟨F1, r1, p1.st, y, r2, e2, fun yv F2 H2 p2 t2 => ?_⟩⟩
  have t1' := t1.keep p2 (p1.ne s)
  split at e
  · rename_i u v z1 z2
    have hx := deref_rq p2.st t1' z1
    have hy := deref_rq p2.st t2 z2
    split at e
    · rename_i ec
      obtain ⟨z, r3, e3, e⟩ := bind_inv e
      refine ⟨F2, u, v, true, p2.st.sub, hx, hy, ec, true, rfl, ?_⟩
      rw [if_pos rfl]
      refine ⟨F2, r2, p2.st, z, r3, e3, fun zv F3 H3 p3 t3 => ?_⟩
      have t2' := t2.keep p3 (p2.ne p1.st)
      split at e
      · rename_i v' w z3 z4
        obtain ⟨e5, rfl⟩ := of_inv e
        rw [Option.map_eq_some_iff] at e5
        obtain ⟨bb, e4, rfl⟩ := e5
        exact ⟨F3, v', w, bb, p3.st.sub, deref_rq p3.st t2' z3, deref_rq p3.st t3 z4, e4, k _ F3 H3 ((p1.trans p2).trans p3) (.bl _)⟩
      · cases e
    · rename_i ec
      cases e
      refine ⟨F2, u, v, false, p2.st.sub, hx, hy, ec, false, rfl, ?_⟩
      rw [if_neg (by decide)]
      exact k _ F2 H2 (p1.trans p2) (.bl _)
    · cases e
  · cases e
theorem rd_chn (hu : X.A.units + 65 < cLine) (o p : Co) (hm : lastMarks [opC o, opC p] [b, c] = false) (ha : PE X a (RdE X.K B f)) (hb : PE X b (RdE X.K B g)) (hc : PE X c (RdE X.K B h)) :
    PE X (.Compare a [opC o, opC p] [b, c] pos) (RdE X.K B (chnG o p f g h)) := PE.imp (pe_chain (or_cop hu o) (or_cop hu p) ha hb hc hm) fun _ _ _ q => chn_imp q
theorem rd_chnT (hu : X.A.units + 65 < cLine) (o p : Co) (hm : lastMarks [opC o, opC p] [b, c] = false) (ha : PE X a (RdE X.K B f)) (hb : PE X b (RdE X.K B g)) (hc : PE X c (RdE X.K B h)) :
    PT X (.Compare a [opC o, opC p] [b, c] pos) (RdC X.K B (tst (chnG o p f g h)).2) := PT.imp (pt_chain (or_cop hu o) (or_cop hu p) ha hb hc hm) fun _ _ _ q => chn_imp (rd_tTest chn_bool q)
/-! ### built-ins -/
theorem boot_ty (t : Ty) : bootBuiltins (tyN t) = some (.type (tyN t)) := by cases t <;> decide +kernel
theorem ty_dbg (t : Ty) : ((tyN t : Str) == ("__debug__" : Str)) = false := by cases t <;> decide
theorem ty_name (t : Ty) : (tyN t : Str) ≠ "__name__" := by cases t <;> decide
theorem rd_isi (hg : Gl X "isinstance") (hm : X.mg "isinstance" = none) {t : Ty} (hg2 : Gl X (tyN t)) (hm2 : X.mg (tyN t) = none) {p p2 : Pos} (hpl : plainE a = true) (ha : PE X a (RdE X.K B f)) :
    PE X (.Call (.Name "isinstance" p) [a, .Name (tyN t) p2] [] pos) (RdE X.K B fun r => (f r).bind fun x r1 => match deref r1 x with
      | some u => if notDict u = true then .ok (.d (.bool (isTy t u))) r1 else .stuck
      | none => .stuck) := by
  have pt : PE X (.Name (tyN t) p2) (tC (.ty (tyN t))) := pe_bltn hg2 hm2 (boot_ty t) rfl (ty_name t) (ty_dbg t)
  refine PE.imp (pe_callB call_isi hg hm boot_isinstance (pa_cons ha (pa_cons pt pa_nil (star_cons rfl)) (star_cons hpl)) (he := star_cons hpl) (hpl := star_any rfl)) fun σ H Q ⟨F, r, s, tv, r', e, k⟩ => ?_
  obtain ⟨x, r1, e1, e⟩ := bind_inv e
  refine ⟨F, r, s, x, r1, e1, fun xv F1 H1 p1 t1 => ?_⟩
  split at e
  · rename_i u z
    split at e
    · rename_i w
      cases e
      have hq := deref_rq p1.st t1 z
      exact ⟨xv, _, _, _, _, rfl, .ty _, tyx p1.st.sub hq w, kit_ty X.K u t w, k _ F1 H1 p1 (.bl _)⟩
    · cases e
  · cases e
def b1N : B1 → String
  | .abs => "abs"
  | .int => "int"
  | .len => "len"
  | .list => "list"
  | .tuple => "tuple"
  | .sum => "sum"
  | .all => "all"
  | .any => "any"
  | .max => "max"
  | .min => "min"
  | .sorted => "sorted"
  | .str => "str"
  | .repr => "repr"
def b1F : B1 → Bool
  | .int => false
  | .list => false
  | .tuple => false
  | .str => false
  | _ => true
theorem boot_b1 (b : B1) : bootBuiltins (b1N b) = some (b1V b) := by cases b <;> decide +kernel
theorem b1_name (b : B1) : (b1N b : Str) ≠ "__name__" := by cases b <;> decide
theorem b1_dbg (b : B1) : ((b1N b : Str) == ("__debug__" : Str)) = false := by cases b <;> decide
theorem b1_val (b : B1) : b1V b = if b1F b then .builtin (b1N b) else .type (b1N b) := by cases b <;> rfl
theorem pe_b1 (hc : X.calm = true) (b : B1) {p : Pos} (hg : Gl X (b1N b)) (hm : X.mg (b1N b) = none) (hpl : plainE a = true) {t : TA} (ha : PA X [a] t) : PE X (.Call (.Name (b1N b) p) [a] [] pos) (tCB (rB1 X.K b) t) := by
  have h1 := cr_b1 hc b
  have h2 := boot_b1 b
  rw [b1_val] at h1 h2
  cases q : b1F b with
  | true =>
    rw [q] at h1 h2
    exact pe_callB h1 hg hm h2 ha (b1_name b) (b1_dbg b) (star_cons hpl) (star_any rfl)
  | false =>
    rw [q] at h1 h2
    exact pe_callTy h1 hg hm h2 ha (b1_name b) (b1_dbg b) (star_cons hpl) (star_any rfl)
theorem rd_bl1 (hc : X.calm = true) (b : B1) {p : Pos} (hg : Gl X (b1N b)) (hm : X.mg (b1N b) = none) (hpl : plainE a = true) (ha : PE X a (RdE X.K B f)) :
    PE X (.Call (.Name (b1N b) p) [a] [] pos) (RdE X.K B fun r => (f r).bind fun x r1 => match deref r1 x with
      | some u => .of (b1 b u) r1
      | none => .stuck) := by
  refine PE.imp (pe_b1 hc b hg hm hpl (pa_cons ha pa_nil (star_cons hpl))) fun σ H Q ⟨F, r, s, tv, r', e, k⟩ => ?_
  obtain ⟨x, r1, e1, e⟩ := bind_inv e
  refine ⟨F, r, s, x, r1, e1, fun xv F1 H1 p1 t1 => ?_⟩
  split at e
  · rename_i u z
    obtain ⟨e2, rfl⟩ := of_inv e
    refine ⟨F1, xv, u, tv, rfl, p1.st.sub, deref_rq p1.st t1 z, e2, fun y H' o => ?_⟩
    obtain ⟨F2, p2, t2⟩ := o.post p1.st
    exact k y F2 H' (p1.trans p2) (t2.back p1.dom)
  · cases e
def b2N : B2 → String
  | .max => "max"
  | .min => "min"
theorem boot_b2 (b : B2) : bootBuiltins (b2N b) = some (.builtin (b2N b)) := by cases b <;> decide +kernel
theorem rd_bl2 (hcm : X.calm = true) (b : B2) {p : Pos} (hg : Gl X (b2N b)) (hm : X.mg (b2N b) = none) {a2 : Expr} (hp1 : plainE a = true) (hp2 : plainE a2 = true) (ha : PE X a (RdE X.K B f)) (hb : PE X a2 (RdE X.K B g)) :
    PE X (.Call (.Name (b2N b) p) [a, a2] [] pos) (RdE X.K B fun r => (f r).bind fun x r1 => (g r1).bind fun y r2 =>
      match deref r2 x, deref r2 y with
      | some u, some v => .of ((b2 b u v).map .d) r2
      | _, _ => .stuck) := by
  have h1 : CallR X (.builtin (b2N b)) (rB2 X.K b) := by
    have := cr_b2 hcm b
    cases b <;> exact this
  have hn : (b2N b : Str) ≠ "__name__" := by cases b <;> decide
  have hd : ((b2N b : Str) == ("__debug__" : Str)) = false := by cases b <;> decide
  refine PE.imp (pe_callB h1 hg hm (boot_b2 b) (pa_cons ha (pa_cons hb pa_nil (star_cons hp2)) (star_cons hp1)) hn hd (star_cons hp1) (star_any (by simp [hp2]))) fun σ H Q ⟨F, r, s, tv, r', e, k⟩ => ?_
  obtain ⟨x, r1, e1, e⟩ := bind_inv e
  obtain ⟨y, r2, e2, e⟩ := bind_inv e
  refine ⟨F, r, s, x, r1, e1, fun xv F1 H1 p1 t1 => ⟨F1, r1, p1.st, y, r2, e2, fun yv F2 H2 p2 t2 => ?_⟩⟩
  have t1' := t1.keep p2 (p1.ne s)
  split at e
  · rename_i u v z1 z2
    obtain ⟨e5, rfl⟩ := of_inv e
    rw [Option.map_eq_some_iff] at e5
    obtain ⟨w, e3, rfl⟩ := e5
    exact ⟨F2, xv, yv, u, v, w, rfl, p2.st.sub, deref_rq p2.st t1' z1, deref_rq p2.st t2 z2, e3, fun z hz => k z F2 H2 (p1.trans p2) hz⟩
  · cases e
end
end Ev

set_option linter.all false
set_option maxHeartbeats 2000000
/-! Calls of the text's own defs. -/
namespace Ev
open PySem PySem.Spec PyProof.Rows L2
/-- the arguments at a def's entry -/
inductive ArgsR (K : Fg) (F H : Hp) : List V → List Sl → Prop
  | nil : ArgsR K F H [] []
  | v {x : V} {d : D} {vs : List V} {ss : List Sl} : Rp K F x d → ArgsR K F H vs ss → ArgsR K F H (x :: vs) (.val d :: ss)
  | l {a : Addr} {o : HO} {d : D} {vs : List V} {ss : List Sl} : H a = some o → F a = none → ObR K F o d → ArgsR K F H vs ss → ArgsR K F H (.ref a :: vs) (.bor d :: ss)
/-- the lent objects' places, in order -/
def lentA : List V → List Sl → List Addr
  | .ref a :: vs, .bor _ :: ss => a :: lentA vs ss
  | _ :: vs, _ :: ss => lentA vs ss
  | _, _ => []
inductive OutsR (K : Fg) (F H : Hp) : List Addr → List D → Prop
  | nil : OutsR K F H [] []
  | cons {a : Addr} {o : HO} {d : D} {l : List Addr} {ds : List D} : H a = some o → F a = none → ObR K F o d → OutsR K F H l ds → OutsR K F H (a :: l) (d :: ds)
/-- what stands behind a call -/
structure CallP (K : Fg) (F H : Hp) (ls : List Addr) (nw : Bool) (v : D) (outs : List D) (x : V) (F' H' : Hp) : Prop where
  sub : Sub F' H'
  mono : Sub F F'
  frame : ∀ a o, H a = some o → a ∉ ls → H' a = some o
  dom : ∀ a, H a ≠ none → H' a ≠ none
  fr : ∀ a, F' a ≠ none → F a ≠ none ∨ H a = none
  value : TvR K H [] F' H' (if nw = true then .f v else .d v) x
  outs : OutsR K F' H' ls outs
/-- a def's promise: what the evaluator says -/
def spOf (K : Fg) (cf : List Sl → CR) : Sp := fun vs H Q E => ∃ F ss, Sub F H ∧ ArgsR K F H vs ss ∧ (lentA vs ss).Nodup ∧ ∃ fr v outs, cf ss = .ok fr v outs ∧ ∀ x F' H', CallP K F H (lentA vs ss) fr v outs x F' H' → Q x H'
/-- arguments as they are made -/
inductive ArL (K : Fg) (F : Hp) (σ : L2.St) : List V → List Ar → Prop
  | nil : ArL K F σ [] []
  | v {x : V} {d : D} {vs : List V} {as : List Ar} : Rp K F x d → ArL K F σ vs as → ArL K F σ (x :: vs) (.v d :: as)
  | l {x : V} {i : Nat} {vs : List V} {as : List Ar} : σ[i]? = some (some x) → ArL K F σ vs as → ArL K F σ (x :: vs) (.l i :: as)
theorem ArL.mono {K : Fg} {F G : Hp} {σ : L2.St} (s : Sub F G) : ∀ {vs : List V} {as : List Ar}, ArL K F σ vs as → ArL K G σ vs as
  | _, _, .nil => .nil
  | _, _, .v h r => .v (h.mono s) (r.mono s)
  | _, _, .l h r => .l h (r.mono s)
def adr (σ : L2.St) (i : Nat) : Option Addr := match σ[i]? with
  | some (some (.ref a)) => some a
  | _ => none
theorem adr_of {σ : L2.St} {i : Nat} {a : Addr} (h : σ[i]? = some (some (.ref a))) : adr σ i = some a := by
  unfold adr
  rw [h]
def RdR (K : Fg) (B : Bs) (g : Env → Res (List Ar)) : TA := fun σ H Q => ∃ F r, StR K B F H σ r ∧ ∃ t r', g r = .ok t r' ∧ ∀ xs F' H', Post K B σ r F H r' F' H' → ArL K F' σ xs t → Q xs H'
theorem mutAt_inv {r : Env} {i : Nat} {d : D} (h : mutAt r i = some d) : r[i]? = some (.own d) ∨ r[i]? = some (.bor d) := by
  unfold mutAt at h
  split at h
  · cases h; left; assumption
  · cases h; right; assumption
  · cases h
section
variable {K : Fg} {B : Bs} {F H : Hp} {σ : L2.St} {r : Env}
/-- the arguments, read in the caller's state -/
theorem args_of (s : StR K B F H σ r) : ∀ {vs : List V} {as : List Ar} {ss : List Sl}, ArL K F σ vs as → argsS r as = some ss → ArgsR K F H vs ss ∧ (∀ a, a ∈ lentA vs ss ↔ ∃ i, i ∈ lends as ∧ σ[i]? = some (some (.ref a))) ∧
      (lentA vs ss).map some = (lends as).map (adr σ) ∧ ∀ i ∈ lends as, ∃ d, r[i]? = some (.own d) ∨ r[i]? = some (.bor d)
  | _, _, _, .nil, e => by
    cases e
    exact ⟨.nil, fun a => by simp [lentA, lends], rfl, fun i h => nomatch h⟩
  | _, _, _, .v (x := x) (d := d) (vs := vs) (as := as) h rest, e => by
    unfold argsS at e
    rw [Option.bind_eq_some_iff] at e
    obtain ⟨s1, e1, e⟩ := e
    rw [Option.map_eq_some_iff] at e
    obtain ⟨ss, e2, rfl⟩ := e
    cases e1
    obtain ⟨h1, h2, h3, h4⟩ := args_of s rest e2
    have el : lentA (x :: vs) (.val d :: ss) = lentA vs ss := by cases x <;> rfl
    refine ⟨.v h h1, fun a => ?_, ?_, h4⟩
    · rw [el]; exact h2 a
    · rw [el]; exact h3
  | _, _, _, .l (x := x) (i := i) (vs := vs) (as := as) h rest, e => by
    unfold argsS at e
    rw [Option.bind_eq_some_iff] at e
    obtain ⟨s1, e1, e⟩ := e
    rw [Option.map_eq_some_iff] at e
    obtain ⟨ss, e2, rfl⟩ := e
    unfold argS at e1
    rw [Option.map_eq_some_iff] at e1
    obtain ⟨d, e1, rfl⟩ := e1
    have hr := mutAt_inv e1
    obtain ⟨a, o, q1, q2, q3, q4⟩ := s.obj i d hr
    rw [h] at q1
    cases q1
    obtain ⟨h1, h2, h3, h4⟩ := args_of s rest e2
    refine ⟨.l q2 q3 q4 h1, fun b => ?_, ?_, fun j hj => ?_⟩
    · show b ∈ a :: lentA vs ss ↔ ∃ j, j ∈ i :: lends as ∧ _
      rw [List.mem_cons, h2 b]
      constructor
      · rintro (rfl | ⟨j, hj, e⟩)
        · exact ⟨i, List.mem_cons_self, h⟩
        · exact ⟨j, List.mem_cons_of_mem _ hj, e⟩
      · rintro ⟨j, hj, e⟩
        rcases List.mem_cons.mp hj with rfl | hj
        · left
          rw [h] at e
          cases e
          rfl
        · exact .inr ⟨j, hj, e⟩
    · show some a :: (lentA vs ss).map some = adr σ i :: (lends as).map (adr σ)
      rw [h3, adr_of h]
    · rcases List.mem_cons.mp hj with rfl | hj
      · exact ⟨d, hr⟩
      · exact h4 j hj
theorem lent_nodup (s : StR K B F H σ r) {vs : List V} {as : List Ar} {ss : List Sl} (h : ArL K F σ vs as) (e : argsS r as = some ss) (n : (lends as).Nodup) : (lentA vs ss).Nodup := by
  obtain ⟨_, _, h3, h4⟩ := args_of s h e
  have inj : ∀ i ∈ lends as, ∀ j ∈ lends as, adr σ i = adr σ j → i = j := fun i hi j hj q => by
    obtain ⟨d, hd⟩ := h4 i hi
    obtain ⟨d2, hd2⟩ := h4 j hj
    obtain ⟨a, o, q1, _⟩ := s.obj i d hd
    obtain ⟨a2, o2, q2, _⟩ := s.obj j d2 hd2
    rw [adr_of q1, adr_of q2] at q
    have qa : a = a2 := Option.some.inj q
    subst qa
    exact s.inj i j d d2 a hd hd2 q1 q2
  have nm : ((lentA vs ss).map some).Nodup := by
    rw [h3]
    unfold List.Nodup
    rw [List.pairwise_map]
    exact List.Pairwise.imp_of_mem (fun hi hj ne q => ne (inj _ hi _ hj q)) n
  unfold List.Nodup at nm
  rw [List.pairwise_map] at nm
  exact nm.imp fun ne q => ne (congrArg some q)
end
theorem setAt_get {r : Env} {i j : Nat} {d : D} {sl : Sl} (h : (setAt r i d)[j]? = some sl) : (j = i ∧ ((r[i]? ≠ none ∧ ∃ c, r[i]? = some (.own c) ∧ sl = .own d) ∨ ∃ c, r[i]? = some (.bor c) ∧ sl = .bor d)) ∨ ((j ≠ i ∨ mutAt r i = none) ∧ r[j]? = some sl) := by
  unfold setAt at h
  split at h
  · rename_i c hc
    rcases getset h with ⟨q, e⟩ | ⟨q, e⟩
    · exact .inl ⟨q, .inl ⟨by rw [hc]; simp, c, hc, e⟩⟩
    · exact .inr ⟨.inl q, e⟩
  · rename_i c hc
    rcases getset h with ⟨q, e⟩ | ⟨q, e⟩
    · exact .inl ⟨q, .inr ⟨c, hc, e⟩⟩
    · exact .inr ⟨.inl q, e⟩
  · rename_i n1 n2
    refine .inr ⟨.inr ?_, h⟩
    unfold mutAt
    split
    · rename_i d' q; exact absurd q (n1 d')
    · rename_i d' q; exact absurd q (n2 d')
    · rfl
theorem setAt_len {r : Env} {i : Nat} {d : D} : (setAt r i d).length = r.length := by
  unfold setAt
  split <;> simp
/-- a slot's object is another one now -/
theorem set_st {K : Fg} {B : Bs} {F H : Hp} {σ : L2.St} {r : Env} {i : Nat} {c d : D} {a : Addr} {o : HO} (s : StR K B F H σ r) (hr : r[i]? = some (.own c) ∨ r[i]? = some (.bor c)) (hs : σ[i]? = some (some (.ref a))) (ho : ObR K F o d) :
    StR K B F (upd H a o) σ (setAt r i d) where
  sub := fun b u q => by
    obtain ⟨a', o', e1, e2, e3, _⟩ := s.obj i c hr
    rw [hs] at e1
    cases e1
    rw [upd_ne (ne_of_none q e3)]
    exact s.sub b u q
  dom := fun b q => by
    by_cases z : b = a
    · subst z; rw [upd_same]; simp
    · rw [upd_ne z]; exact s.dom b q
  len := by rw [setAt_len]; exact s.len
  val := fun j e q => by
    rcases setAt_get q with ⟨_, ⟨_, _, _, z⟩ | ⟨_, _, z⟩⟩ | ⟨_, q⟩
    · cases z
    · cases z
    · exact s.val j e q
  obj := fun j e q => by
    obtain ⟨a', o', e1, e2, e3, e4⟩ := s.obj i c hr
    rw [hs] at e1
    cases e1
    have key : (j = i ∧ e = d) ∨ (j ≠ i ∧ (r[j]? = some (.own e) ∨ r[j]? = some (.bor e))) := by
      have nm : mutAt r i ≠ none := by
        unfold mutAt
        rcases hr with z | z <;> rw [z] <;> simp
      rcases q with q | q
      · rcases setAt_get q with ⟨z, ⟨_, _, _, w⟩ | ⟨_, _, w⟩⟩ | ⟨z, q⟩
        · cases w; exact .inl ⟨z, rfl⟩
        · cases w
        · rcases z with z | z
          · exact .inr ⟨z, .inl q⟩
          · exact absurd z nm
      · rcases setAt_get q with ⟨z, ⟨_, _, _, w⟩ | ⟨_, _, w⟩⟩ | ⟨z, q⟩
        · cases w
        · cases w; exact .inl ⟨z, rfl⟩
        · rcases z with z | z
          · exact .inr ⟨z, .inr q⟩
          · exact absurd z nm
    rcases key with ⟨rfl, rfl⟩ | ⟨z, q⟩
    · exact ⟨a, o, hs, upd_same, e3, ho⟩
    · obtain ⟨b, u, y1, y2, y3, y4⟩ := s.obj j e q
      refine ⟨b, u, y1, ?_, y3, y4⟩
      rw [upd_ne (fun w => by subst w; exact z (s.inj j i e c b q hr y1 hs))]
      exact y2
  new := fun j e b q w => by
    rcases setAt_get q with ⟨z, ⟨_, c', hc, _⟩ | ⟨_, _, w'⟩⟩ | ⟨_, q⟩
    · subst z
      exact s.new j c' b hc w
    · cases w'
    · exact s.new j e b q w
  lnt := fun j e b q w => by
    rcases setAt_get q with ⟨z, ⟨_, c', hc, w'⟩ | ⟨c', hc, w'⟩⟩ | ⟨_, q⟩
    · cases w'
    · subst z
      exact s.lnt j c' b hc w
    · exact s.lnt j e b q w
  inj := fun j k e e' b q1 q2 w1 w2 => by
    have f : ∀ {j : Nat} {e : D}, ((setAt r i d)[j]? = some (.own e) ∨ (setAt r i d)[j]? = some (.bor e)) → ∃ e', (r[j]? = some (.own e') ∨ r[j]? = some (.bor e')) := fun q => by
      rcases q with q | q
      · rcases setAt_get q with ⟨z, ⟨_, c', hc, _⟩ | ⟨c', hc, _⟩⟩ | ⟨_, q⟩
        · subst z; exact ⟨c', .inl hc⟩
        · subst z; exact ⟨c', .inr hc⟩
        · exact ⟨_, .inl q⟩
      · rcases setAt_get q with ⟨z, ⟨_, c', hc, _⟩ | ⟨c', hc, _⟩⟩ | ⟨_, q⟩
        · subst z; exact ⟨c', .inl hc⟩
        · subst z; exact ⟨c', .inr hc⟩
        · exact ⟨_, .inr q⟩
    obtain ⟨u1, f1⟩ := f q1
    obtain ⟨u2, f2⟩ := f q2
    exact s.inj j k u1 u2 b f1 f2 w1 w2
theorem own_setAt {σ : L2.St} {r : Env} {i : Nat} {d : D} {a : Addr} (h : Own σ (setAt r i d) a) : Own σ r a := by
  obtain ⟨j, e, q, w⟩ := h
  rcases q with q | q
  · rcases setAt_get q with ⟨z, ⟨_, c', hc, _⟩ | ⟨c', hc, _⟩⟩ | ⟨_, q⟩
    · subst z; exact ⟨j, c', .inl hc, w⟩
    · subst z; exact ⟨j, c', .inr hc, w⟩
    · exact ⟨j, e, .inl q, w⟩
  · rcases setAt_get q with ⟨z, ⟨_, c', hc, _⟩ | ⟨c', hc, _⟩⟩ | ⟨_, q⟩
    · subst z; exact ⟨j, c', .inl hc, w⟩
    · subst z; exact ⟨j, c', .inr hc, w⟩
    · exact ⟨j, e, .inr q, w⟩
end Ev

set_option linter.all false
set_option maxHeartbeats 2000000
namespace Ev
open PySem PySem.Spec PyProof.Rows L2
def Mu (r : Env) (i : Nat) : Prop := ∃ d, r[i]? = some (.own d) ∨ r[i]? = some (.bor d)
theorem setAt_ne {r : Env} {i j : Nat} {d : D} (h : j ≠ i) : (setAt r i d)[j]? = r[j]? := by
  unfold setAt
  split
  · rw [List.getElem?_set_ne (fun z => h z.symm)]
  · rw [List.getElem?_set_ne (fun z => h z.symm)]
  · rfl
theorem setAt_own {r : Env} {i : Nat} {c d : D} (h : r[i]? = some (.own c)) : (setAt r i d)[i]? = some (.own d) := by
  unfold setAt
  rw [h]
  simp only
  rw [List.getElem?_set_self]
  have := List.getElem?_eq_some_iff.mp h
  exact this.1
theorem setAt_bor {r : Env} {i : Nat} {c d : D} (h : r[i]? = some (.bor c)) : (setAt r i d)[i]? = some (.bor d) := by
  unfold setAt
  rw [h]
  simp only
  rw [List.getElem?_set_self]
  have := List.getElem?_eq_some_iff.mp h
  exact this.1
theorem outsE_get : ∀ {L : List Nat} {outs : List D} {r r2 : Env}, outsE L outs r = some r2 → L.Nodup → (∀ i ∈ L, Mu r i) →
    L.length = outs.length ∧ r2.length = r.length ∧ (∀ j, j ∉ L → r2[j]? = r[j]?) ∧ ∀ (k : Nat) (i : Nat), L[k]? = some i → ∃ d, outs[k]? = some d ∧ (((∃ c, r[i]? = some (.own c)) ∧ r2[i]? = some (.own d)) ∨ ((∃ c, r[i]? = some (.bor c)) ∧ r2[i]? = some (.bor d)))
  | [], [], r, r2, e, _, _ => by
    cases e
    exact ⟨rfl, rfl, fun _ _ => rfl, fun k i h => by simp at h⟩
  | [], _ :: _, r, r2, e, _, _ => by cases e
  | i :: L, [], r, r2, e, _, _ => by cases e
  | i :: L, d :: ds, r, r2, e, n, m => by
    have n1 := List.nodup_cons.mp n
    obtain ⟨h1, h2, h3, h4⟩ := outsE_get (L := L) (outs := ds) (r := setAt r i d) e n1.2 (fun j hj => by
      have ne : j ≠ i := fun z => n1.1 (z ▸ hj)
      obtain ⟨c, hc⟩ := m j (List.mem_cons_of_mem _ hj)
      exact ⟨c, by rw [setAt_ne ne]; exact hc⟩)
    refine ⟨by rw [List.length_cons, List.length_cons, h1], by rw [h2, setAt_len], fun j hj => ?_, fun k j hk => ?_⟩
    · rw [List.mem_cons, not_or] at hj
      rw [h3 j hj.2, setAt_ne hj.1]
    · cases k with
      | zero =>
        simp only [List.getElem?_cons_zero, Option.some.injEq] at hk
        subst hk
        refine ⟨d, by simp, ?_⟩
        rw [h3 i n1.1]
        obtain ⟨c, hc⟩ := m i List.mem_cons_self
        rcases hc with hc | hc
        · exact .inl ⟨⟨c, hc⟩, setAt_own hc⟩
        · exact .inr ⟨⟨c, hc⟩, setAt_bor hc⟩
      | succ k =>
        simp only [List.getElem?_cons_succ] at hk
        have hm : j ∈ L := List.mem_of_getElem? hk
        have ne : j ≠ i := fun z => n1.1 (z ▸ hm)
        obtain ⟨d', q1, q2⟩ := h4 k j hk
        rw [setAt_ne ne] at q2
        exact ⟨d', by simpa using q1, q2⟩
theorem OutsR.get {K : Fg} {F H : Hp} : ∀ {ls : List Addr} {ds : List D}, OutsR K F H ls ds → ∀ (k : Nat) (a : Addr) (d : D), ls[k]? = some a → ds[k]? = some d → ∃ o, H a = some o ∧ F a = none ∧ ObR K F o d
  | _, _, .nil, k, a, d, h, _ => by simp at h
  | _, _, .cons h1 h2 h3 r, 0, a, d, h, e => by
    simp only [List.getElem?_cons_zero, Option.some.injEq] at h e
    subst h e
    exact ⟨_, h1, h2, h3⟩
  | _, _, .cons h1 h2 h3 r, k + 1, a, d, h, e => by
    simp only [List.getElem?_cons_succ] at h e
    exact r.get k a d h e
/-- the caller's state behind a call -/
theorem call_post {K : Fg} {B : Bs} {F H F' H' : Hp} {σ : L2.St} {r r2 : Env} {ls : List Addr} {L : List Nat} {nw : Bool} {v : D} {outs : List D} {x : V} (s : StR K B F H σ r) (hL : ls.map some = L.map (adr σ)) (n : L.Nodup) (m : ∀ i ∈ L, Mu r i)
    (p : CallP K F H ls nw v outs x F' H') (e : outsE L outs r = some r2) : Post K B σ r F H r2 F' H' ∧ TvR K H σ F' H' (if nw = true then .f v else .d v) x := by
  obtain ⟨h1, h2, h3, h4⟩ := outsE_get e n m
  have lsk : ∀ (k i : Nat), L[k]? = some i → ∃ a, ls[k]? = some a ∧ σ[i]? = some (some (.ref a)) := fun k i hk => by
    have q : (ls.map some)[k]? = (L.map (adr σ))[k]? := by rw [hL]
    rw [List.getElem?_map, List.getElem?_map, hk] at q
    obtain ⟨d, hd⟩ := m i (List.mem_of_getElem? hk)
    obtain ⟨a, o, q1, _⟩ := s.obj i d hd
    rw [Option.map_some, adr_of q1] at q
    rw [Option.map_eq_some_iff] at q
    obtain ⟨a', q2, q3⟩ := q
    cases q3
    exact ⟨a, q2, q1⟩
  have lsm : ∀ a ∈ ls, ∃ i ∈ L, σ[i]? = some (some (.ref a)) := fun a ha => by
    obtain ⟨k, hk⟩ := List.getElem?_of_mem ha
    have q : (ls.map some)[k]? = (L.map (adr σ))[k]? := by rw [hL]
    rw [List.getElem?_map, List.getElem?_map, hk, Option.map_some] at q
    have q := q.symm
    rw [Option.map_eq_some_iff] at q
    obtain ⟨i, q1, q2⟩ := q
    obtain ⟨a', q3, q4⟩ := lsk k i q1
    rw [hk] at q3
    cases q3
    exact ⟨i, List.mem_of_getElem? q1, q4⟩
  have back : ∀ {j : Nat} {d : D}, (r2[j]? = some (.own d) ∨ r2[j]? = some (.bor d)) → (j ∈ L ∧ ∃ k, L[k]? = some j ∧ outs[k]? = some d) ∨ (j ∉ L ∧ (r[j]? = some (.own d) ∨ r[j]? = some (.bor d))) := fun {j d} q => by
    by_cases hj : j ∈ L
    · obtain ⟨k, hk⟩ := List.getElem?_of_mem hj
      obtain ⟨d', q1, q2⟩ := h4 k j hk
      refine .inl ⟨hj, k, hk, ?_⟩
      rcases q2 with ⟨_, q2⟩ | ⟨_, q2⟩
      · rw [q2] at q
        rcases q with q | q
        · cases q; exact q1
        · cases q
      · rw [q2] at q
        rcases q with q | q
        · cases q
        · cases q; exact q1
    · rw [h3 j hj] at q
      exact .inr ⟨hj, q⟩
  have mu : ∀ {j : Nat} {d : D}, (r2[j]? = some (.own d) ∨ r2[j]? = some (.bor d)) → ∃ c, r[j]? = some (.own c) ∨ r[j]? = some (.bor c) := fun {j d} q => by
    rcases back q with ⟨hj, _⟩ | ⟨_, q⟩
    · exact m j hj
    · exact ⟨_, q⟩
  have own : ∀ a, Own σ r2 a → Own σ r a := fun a ⟨j, d, q, w⟩ => by
    obtain ⟨c, hc⟩ := mu q
    exact ⟨j, c, hc, w⟩
  have keepO : ∀ {j : Nat} {d : D}, j ∉ L → (r[j]? = some (.own d) ∨ r[j]? = some (.bor d)) → ∃ a o, σ[j]? = some (some (.ref a)) ∧ H' a = some o ∧ F' a = none ∧ ObR K F' o d := fun {j d} hj q => by
    obtain ⟨a, o, e1, e2, e3, e4⟩ := s.obj j d q
    have na : a ∉ ls := fun z => by
      obtain ⟨i, hi, w⟩ := lsm a z
      obtain ⟨c, hc⟩ := m i hi
      exact hj (s.inj j i d c a q hc e1 w ▸ hi)
    refine ⟨a, o, e1, p.frame a o e2 na, ?_, e4.mono p.mono⟩
    cases z : F' a with
    | none => rfl
    | some u =>
      rcases p.fr a (by rw [z]; simp) with w | w
      · exact absurd e3 w
      · rw [e2] at w; cases w
  refine ⟨⟨⟨p.sub, fun a q => p.dom a (s.dom a q), by rw [h2]; exact s.len, fun j d q => ?_, fun j d q => ?_, fun j d a q w => ?_, fun j d a q w => ?_, fun i j d e' a q1 q2 w1 w2 => ?_⟩, p.mono, fun a o q no => p.frame a o q fun z => no ?_, p.dom, fun a q => ?_, own⟩, ?_⟩
  · by_cases hj : j ∈ L
    · obtain ⟨k, hk⟩ := List.getElem?_of_mem hj
      obtain ⟨d', q1, q2⟩ := h4 k j hk
      rcases q2 with ⟨_, q2⟩ | ⟨_, q2⟩ <;> (rw [q2] at q; cases q)
    · rw [h3 j hj] at q
      obtain ⟨y, e1, e2⟩ := s.val j d q
      exact ⟨y, e1, e2.mono p.mono⟩
  · rcases back q with ⟨hj, k, hk, ho⟩ | ⟨hj, q⟩
    · obtain ⟨a, q1, q2⟩ := lsk k j hk
      obtain ⟨o, e1, e2, e3⟩ := p.outs.get k a d q1 ho
      exact ⟨a, o, q2, e1, e2, e3⟩
    · exact keepO hj q
  · by_cases hj : j ∈ L
    · obtain ⟨k, hk⟩ := List.getElem?_of_mem hj
      obtain ⟨d', q1, q2⟩ := h4 k j hk
      rcases q2 with ⟨⟨c, hc⟩, q2⟩ | ⟨_, q2⟩
      · exact s.new j c a hc w
      · rw [q2] at q; cases q
    · rw [h3 j hj] at q
      exact s.new j d a q w
  · by_cases hj : j ∈ L
    · obtain ⟨k, hk⟩ := List.getElem?_of_mem hj
      obtain ⟨d', q1, q2⟩ := h4 k j hk
      rcases q2 with ⟨_, q2⟩ | ⟨⟨c, hc⟩, q2⟩
      · rw [q2] at q; cases q
      · exact s.lnt j c a hc w
    · rw [h3 j hj] at q
      exact s.lnt j d a q w
  · obtain ⟨c1, f1⟩ := mu q1
    obtain ⟨c2, f2⟩ := mu q2
    exact s.inj i j c1 c2 a f1 f2 w1 w2
  · obtain ⟨i, hi, w⟩ := lsm a z
    obtain ⟨c, hc⟩ := m i hi
    exact ⟨i, c, hc, w⟩
  · rcases p.fr a q with w | w
    · exact .inl w
    · exact .inr (.inl w)
  · have tv := p.value
    cases nw with
    | true => exact tv
    | false => exact tv
section
variable {X : Cx} {B : Bs} {e a b c : Expr} {pos : Pos} {f g h : Env → Res TV}
theorem rr_nil : PA X [] (RdR X.K B fun r => .ok [] r) := PA.imp pa_nil fun σ H Q ⟨F, r, s, t, r', e, k⟩ => by
  cases e
  exact k [] F H (Post.refl s) .nil
theorem rr_cons {es : List Expr} {fa : Env → Res (List Ar)} (ha : PE X a (RdE X.K B f)) (hr : PA X es (RdR X.K B fa)) (hs : starEach (a :: es) X.env = (false, eval a X.env) :: starEach es X.env) :
    PA X (a :: es) (RdR X.K B fun r => (f r).bind fun x r1 => (solidR r1 x).bind fun v r2 => (fa r2).bind fun vs r3 => .ok (.v v :: vs) r3) := by
  refine PA.imp (pa_cons ha hr hs) fun σ H Q ⟨F, r, s, t, r', e, k⟩ => ?_
  obtain ⟨x, r1, e1, e⟩ := bind_inv e
  obtain ⟨v, r2, e2, e⟩ := bind_inv e
  obtain ⟨vs, r3, e3, e⟩ := bind_inv e
  cases e
  refine ⟨F, r, s, x, r1, e1, fun xv F1 H1 p1 t1 => ?_⟩
  obtain ⟨F2, p2, h2, m2⟩ := solid_post s p1 t1 (solidR_ok e2)
  refine ⟨F2, r2, p2.st, vs, r', e3, fun xs F3 H3 p3 h3 => ?_⟩
  exact k (xv :: xs) F3 H3 (p2.trans p3) (.v (h2.mono p3.mono) h3)
theorem rr_lend {es : List Expr} {fa : Env → Res (List Ar)} {i : Nat} {x : Str} {p : Pos} (hN : X.N[i]? = some x) (hv : Vis X.env.scope x) (hd : (x == ("__debug__" : Str)) = false) (hcd : (x == ("__classdict__" : Str)) = false)
    (hr : PA X es (RdR X.K B fa)) :
    PA X (.Name x p :: es) (RdR X.K B fun r => match mutAt r i with
    | some _ => (fa r).bind fun vs r1 => .ok (.l i :: vs) r1
    | none => .stuck) := by
  refine PA.imp (pa_cons (pe_var hN hv hd hcd) hr (star_cons rfl)) fun σ H Q ⟨F, r, s, t, r', e, k⟩ => ?_
  dsimp only at e
  split at e
  · rename_i d hm
    obtain ⟨vs, r3, e3, e⟩ := bind_inv e
    cases e
    obtain ⟨a, o, q1, _⟩ := s.obj i d (mutAt_inv hm)
    refine ⟨_, q1, F, r, s, vs, r', e3, fun xs F3 H3 p3 h3 => ?_⟩
    exact k (_ :: xs) F3 H3 p3 (.l q1 h3)
  · cases e
theorem rd_call {CX : CXT} {lv : Nat} {ad : Addr} {fd : FuncData} {ps : List Str} {cf : List Sl → CR} {x : Str} {p : Pos} {es : List Expr} {fa : Env → Res (List Ar)} (Fn : FnOk X.prog X.w X.K X.mg X.base CX lv ad fd ps (spOf X.K cf)) (hr : Room lv X.A)
    (hg : Gl X x) (hm : X.mg x = some (.ref ad)) (hk : PySem.W.keepIn X.K (.ref ad) = true) (hb : Binds X.K fd ps []) (hx : Passes CX X (fun _ _ _ => False)) (hpl : es.all plainE = true) (hdb : (x == ("__debug__" : Str)) = false) (ha : PA X es (RdR X.K B fa)) (h0 : es = [] → fa = fun r => .ok [] r) (call : Nat → List Sl → CR) (fi : Nat) (hc : call fi = cf) :
    PE X (.Call (.Name x p) es [] pos) (RdE X.K B fun r => (fa r).bind fun as r1 => doCall call fi as r1) := by
  have key : ∀ {σ : L2.St} {H : Hp} {Q : VK}, RdE X.K B (fun r => (fa r).bind fun as r1 => doCall call fi as r1) σ H Q → tCall (spOf X.K cf) [] (fun _ _ _ => False) (RdR X.K B fa) σ H Q := fun {σ H Q} ⟨F, r, s, t, r', e, k⟩ => by
    obtain ⟨as, r1, e1, e⟩ := bind_inv e
    refine ⟨F, r, s, as, r1, e1, fun xs F1 H1 p1 h1 => ?_⟩
    show spOf X.K cf (xs ++ []) H1 Q _
    rw [List.append_nil]
    unfold doCall at e
    split at e
    · cases e
    · rename_i ss hss
      split at e
      · rename_i nd
        rw [hc] at e
        split at e
        · rename_i nw v outs hcf
          split at e
          · rename_i r2 ho
            cases e
            obtain ⟨a1, a2, a3, a4⟩ := args_of p1.st h1 hss
            refine ⟨F1, ss, p1.st.sub, a1, lent_nodup p1.st h1 hss nd, nw, v, outs, hcf, fun y F2 H2 cp => ?_⟩
            obtain ⟨p2, t2⟩ := call_post p1.st a3 nd a4 cp ho
            exact k y F2 H2 (p1.trans p2) (t2.back p1.dom)
          · cases e
        · split at e <;> cases e
        · cases e
      · cases e
  cases es with
  | nil =>
    refine PE.imp (pe_call0 Fn hr hg hm hk hb .nil hx hdb) fun σ H Q q => ?_
    obtain ⟨F, r, s, t, r', e, k⟩ := key q
    rw [h0 rfl] at e
    cases e
    exact k [] F H (Post.refl s) .nil
  | cons e0 es =>
    rw [List.all_cons, Bool.and_eq_true] at hpl
    exact PE.imp (pe_call Fn hr hg hm hk hb .nil hx ha hdb (star_cons hpl.1) (star_any hpl.2)) fun σ H Q q => key q
end
end Ev

set_option linter.all false
set_option maxHeartbeats 2000000
namespace Ev
open PySem PySem.Spec PyProof.Rows L2
theorem RpL.getv {K : Fg} {F : Hp} : ∀ {v : List V} {d : List D}, RpL K F v d → ∀ (i : Nat) (y : V), v[i]? = some y → ∃ x, d[i]? = some x ∧ Rp K F y x
  | _, _, .nil, i, x, e => by simp at e
  | _, _, .cons h r, 0, x, e => by
    simp only [List.getElem?_cons_zero, Option.some.injEq] at e
    subst e
    exact ⟨_, by simp, h⟩
  | _, _, .cons h r, i + 1, x, e => by
    simp only [List.getElem?_cons_succ] at e
    obtain ⟨y, h1, h2⟩ := RpL.getv r i x e
    exact ⟨y, by simpa using h1, h2⟩
theorem wk_list {K : Fg} {F : Hp} {a : Addr} {xs : List V} {ds : List D} (h : F a = some (.lst xs)) (r : RpL K F xs ds) : WkD K F (Itl K a) ds where
  goes := fun i H hi sb => walk_list.goes i H (by rw [r.length]; exact hi) (SqL.of (sb _ _ h))
  stops := fun H sb => by
    have := (walk_list (K := K)).stops H (SqL.of (sb _ _ h))
    rw [r.length] at this
    exact this
  yields := fun i H x H' hi sb y => by
    obtain ⟨rfl, e⟩ := walk_list.yields i H x H' (by rw [r.length]; exact hi) (SqL.of (sb _ _ h)) y
    obtain ⟨d, e1, e2⟩ := r.getv i x e
    exact ⟨d, e1, .same e2⟩
theorem wk_tup {K : Fg} {F : Hp} {a : Addr} {xs : List V} {ds : List D} (h : SqT K F a xs) (r : RpL K F xs ds) : WkD K F (Itt K a) ds where
  goes := fun i H hi sb => walk_tup.goes i H (by rw [r.length]; exact hi) (sb.sqt h)
  stops := fun H sb => by
    have := (walk_tup (K := K)).stops H (sb.sqt h)
    rw [r.length] at this
    exact this
  yields := fun i H x H' hi sb y => by
    obtain ⟨rfl, e⟩ := walk_tup.yields i H x H' (by rw [r.length]; exact hi) (sb.sqt h) y
    obtain ⟨d, e1, e2⟩ := r.getv i x e
    exact ⟨d, e1, .same e2⟩
theorem wk_str {K : Fg} {F : Hp} {z : Str} : WkD K F (Its z) (z.cps.toList.map fun c => .str ⟨#[c]⟩) where
  goes := fun i H hi sb => walk_str.goes i H (by simpa using hi) trivial
  stops := fun H sb => by
    have := (walk_str (z := z)).stops H trivial
    simpa using this
  yields := fun i H x H' hi sb y => by
    obtain ⟨rfl, c, e, rfl⟩ := walk_str.yields i H x H' (by simpa using hi) trivial y
    exact ⟨.str ⟨#[c]⟩, by simp [e], .same (.str _)⟩
theorem rng_get : ∀ (n : Nat) (lo : Int) (i : Nat), i < n → (rng lo n)[i]? = some (.int (lo + i))
  | 0, _, _, h => absurd h (Nat.not_lt_zero _)
  | n + 1, lo, 0, _ => by simp [rng]
  | n + 1, lo, i + 1, h => by
    have := rng_get n (lo + 1) i (by omega)
    show (rng (lo + 1) n)[i]? = _
    rw [this]
    congr 2
    omega
theorem rng_len : ∀ (n : Nat) (lo : Int), (rng lo n).length = n
  | 0, _ => rfl
  | n + 1, lo => by
    show (rng (lo + 1) n).length + 1 = n + 1
    rw [rng_len]
theorem wk_rng {K : Fg} {F : Hp} {lo : Int} {n : Nat} : WkD K F (Itr lo n) (rng lo n) where
  goes := fun i H hi sb => walk_range.goes i H (by rw [rng_len] at hi; exact hi) trivial
  stops := fun H sb => by
    rw [rng_len]
    exact (walk_range (lo := lo) (n := n)).stops H trivial
  yields := fun i H x H' hi sb y => by
    rw [rng_len] at hi
    obtain ⟨rfl, rfl⟩ := walk_range.yields i H x H' hi trivial y
    exact ⟨_, rng_get n lo i hi, .same (.int _)⟩
theorem enumD_get : ∀ (xs : List D) (k i : Nat) (x : D), xs[i]? = some x → (enumD k xs)[i]? = some (.tuple [.int ((k + i : Nat) : Int), x])
  | [], k, i, x, h => by simp at h
  | y :: r, k, 0, x, h => by
    simp only [List.getElem?_cons_zero, Option.some.injEq] at h
    subst h
    simp [enumD]
  | y :: r, k, i + 1, x, h => by
    simp only [List.getElem?_cons_succ] at h
    have := enumD_get r (k + 1) i x h
    show (enumD (k + 1) r)[i]? = _
    rw [this]
    congr 4
    omega
theorem enumD_len : ∀ (xs : List D) (k : Nat), (enumD k xs).length = xs.length
  | [], _ => rfl
  | y :: r, k => by
    show (enumD (k + 1) r).length + 1 = r.length + 1
    rw [enumD_len]
theorem zipD_get : ∀ (xs ys : List D) (i : Nat) (x y : D), xs[i]? = some x → ys[i]? = some y → (zipD xs ys)[i]? = some (.tuple [x, y])
  | [], _, i, x, y, h, _ => by simp at h
  | _ :: _, [], i, x, y, _, h => by simp at h
  | a :: r, b :: q, 0, x, y, h, h2 => by
    simp only [List.getElem?_cons_zero, Option.some.injEq] at h h2
    subst h h2
    simp [zipD]
  | a :: r, b :: q, i + 1, x, y, h, h2 => by
    simp only [List.getElem?_cons_succ] at h h2
    exact zipD_get r q i x y h h2
theorem zipD_len : ∀ (xs ys : List D), (zipD xs ys).length = min xs.length ys.length
  | [], _ => by simp [zipD]
  | _ :: _, [] => by simp [zipD]
  | a :: r, b :: q => by
    show (zipD r q).length + 1 = _
    rw [zipD_len]
    simp only [List.length_cons]
    omega
theorem Rp.seqX {K : Fg} {F : Hp} {x : V} {v : D} {ds : List D} (h : Rp K F x v) (e : listOf v = some ds) : ∃ b a xs, x = .ref a ∧ RpL K F xs ds ∧ ∀ H, Sub F H → SqX K b H a xs := by
  unfold listOf at e
  split at e
  · cases e
    cases h with
    | lst h1 h2 => exact ⟨true, _, _, rfl, h2, fun H sb => SqL.of (sb _ _ h1)⟩
  · cases e
    cases h with
    | tup h1 h2 => exact ⟨false, _, _, rfl, h2, fun H sb => sb.sqt h1⟩
  · cases e
section
variable {X : Cx} {B : Bs} {e a b c tg : Expr} {pos : Pos} {f g h : Env → Res TV}
theorem ri_val (ha : PE X a (RdE X.K B f)) : PI X tg a (RdI X.K B fun r => (f r).bind fun x r1 => (solidR r1 x).bind fun v r2 => .of (itemsOf v) r2) := by
  refine PI.imp (PI.or (pi_list ha) (PI.or (pi_tup ha) (pi_str ha))) fun σ H R ⟨F, r, s, t, r', e, k⟩ => ?_
  obtain ⟨x, r1, e1, e⟩ := bind_inv e
  obtain ⟨v, r2, e2, e⟩ := bind_inv e
  obtain ⟨e, rfl⟩ := of_inv e
  have go : ∀ {xv : V} {F1 H1 : Hp}, Post X.K B σ r F H r1 F1 H1 → TvR X.K H σ F1 H1 x xv → ∃ F2, Post X.K B σ r F H r2 F2 H1 ∧ Rp X.K F2 xv v := fun {xv F1 H1} p1 t1 => by
    obtain ⟨F2, p2, h2, _⟩ := solid_post s p1 t1 (solidR_ok e2)
    exact ⟨F2, p2, h2⟩
  unfold itemsOf at e
  split at e
  · cases e
    refine .inl ⟨F, r, s, x, r1, e1, fun xv F1 H1 p1 t1 => ?_⟩
    obtain ⟨F2, p2, h2⟩ := go p1 t1
    cases h2 with
    | lst h3 h4 => exact ⟨_, rfl, ⟨_, SqL.of (p2.st.sub _ _ h3)⟩, k _ F2 H1 p2 (wk_list h3 h4)⟩
  · cases e
    refine .inr (.inl ⟨F, r, s, x, r1, e1, fun xv F1 H1 p1 t1 => ?_⟩)
    obtain ⟨F2, p2, h2⟩ := go p1 t1
    cases h2 with
    | tup h3 h4 => exact ⟨_, rfl, ⟨_, p2.st.sub.sqt h3⟩, k _ F2 H1 p2 (wk_tup h3 h4)⟩
  · cases e
    refine .inr (.inr ⟨F, r, s, x, r1, e1, fun xv F1 H1 p1 t1 => ?_⟩)
    obtain ⟨F2, p2, h2⟩ := go p1 t1
    cases h2 with
    | str z => exact ⟨_, rfl, k _ F2 H1 p2 wk_str⟩
  · cases e
theorem small62_ok {j : Int} (h : small62 j = true) : -(2 ^ 62) ≤ j ∧ j < 2 ^ 62 := by
  unfold small62 P62 at h
  rw [Bool.and_eq_true, decide_eq_true_eq, decide_eq_true_eq] at h
  have e : (2 : Int) ^ 62 = 4611686018427387904 := by decide
  rw [e]
  omega
theorem ri_rg1 {p : Pos} (hg : Gl X "range") (hm : X.mg "range" = none) (hpl : plainE a = true) (ha : PE X a (RdE X.K B f)) : PI X tg (.Call (.Name "range" p) [a] [] pos) (RdI X.K B fun r => (f r).bind fun x r1 => match deref r1 x with
      | some (.int j) => if small62 j then .ok (rng 0 j.toNat) r1 else .stuck
      | _ => .stuck) := by
  refine PI.imp (pi_range1 hg hm (pa_cons ha pa_nil (star_cons hpl)) (star_cons hpl)) fun σ H R ⟨F, r, s, t, r', e, k⟩ => ?_
  obtain ⟨x, r1, e1, e⟩ := bind_inv e
  refine ⟨F, r, s, x, r1, e1, fun xv F1 H1 p1 t1 => ?_⟩
  split at e
  · rename_i j z
    split at e
    · rename_i w
      cases e
      have h := small62_ok w
      exact ⟨j, by rw [(deref_rq p1.st t1 z).int], h.1, h.2, k _ F1 H1 p1 wk_rng⟩
    · cases e
  · cases e
theorem ri_rg2 {p : Pos} (hg : Gl X "range") (hm : X.mg "range" = none) (hp1 : plainE a = true) (hp2 : plainE b = true) (ha : PE X a (RdE X.K B f)) (hb : PE X b (RdE X.K B g)) :
    PI X tg (.Call (.Name "range" p) [a, b] [] pos) (RdI X.K B fun r => (f r).bind fun x r1 => (g r1).bind fun y r2 => match deref r2 x, deref r2 y with
      | some (.int i), some (.int j) => if small62 i && small62 j then .ok (rng i (j - i).toNat) r2 else .stuck
      | _, _ => .stuck) := by
  refine PI.imp (pi_range2 hg hm (pa_cons ha (pa_cons hb pa_nil (star_cons hp2)) (star_cons hp1)) (by rw [star_cons hp1, star_cons hp2]; rfl) (star_cons hp2)) fun σ H R ⟨F, r, s, t, r', e, k⟩ => ?_
  obtain ⟨x, r1, e1, e⟩ := bind_inv e
  obtain ⟨y, r2, e2, e⟩ := bind_inv e
  refine ⟨F, r, s, x, r1, e1, fun xv F1 H1 p1 t1 => ⟨F1, r1, p1.st, y, r2, e2, fun yv F2 H2 p2 t2 => ?_⟩⟩
  have t1' := t1.keep p2 (p1.ne s)
  split at e
  · rename_i i j z1 z2
    split at e
    · rename_i w
      cases e
      rw [Bool.and_eq_true] at w
      have h1 := small62_ok w.1
      have h2 := small62_ok w.2
      exact ⟨i, j, by rw [(deref_rq p2.st t1' z1).int, (deref_rq p2.st t2 z2).int], ⟨h1.1, h1.2, h2.1, h2.2⟩, k _ F2 H2 (p1.trans p2) wk_rng⟩
    · cases e
  · cases e
theorem ri_enm {p tpos : Pos} {elts : List Expr} {kk : Nat} (hg : Gl X "enumerate") (hm : X.mg "enumerate" = none) (hpl : plainE a = true) (ha : PE X a (RdE X.K B f)) :
    PI X (.Tuple elts kk tpos) (.Call (.Name "enumerate" p) [a] [] pos) (RdI X.K B fun r => (f r).bind fun x r1 => (solidR r1 x).bind fun v r2 => match listOf v with
      | some xs => .ok (enumD 0 xs) r2
      | none => .stuck) := by
  refine PI.imp (pi_enumX hg hm (pa_cons ha pa_nil (star_cons hpl)) (star_cons hpl)) fun σ H R ⟨F, r, s, t, r', e, k⟩ => ?_
  obtain ⟨x, r1, e1, e⟩ := bind_inv e
  obtain ⟨v, r2, e2, e⟩ := bind_inv e
  refine ⟨F, r, s, x, r1, e1, fun xv F1 H1 p1 t1 => ?_⟩
  obtain ⟨F2, p2, h2, _⟩ := solid_post s p1 t1 (solidR_ok e2)
  split at e
  · rename_i ds z
    cases e
    obtain ⟨bb, ad, xs, rfl, rl, hS⟩ := h2.seqX z
    refine ⟨bb, ad, xs, rfl, hS H1 p2.st.sub, k _ F2 H1 p2 ⟨fun i H hi sb => ⟨hS H sb, ?_⟩, fun H sb => ⟨hS H sb, ?_⟩, fun i H y H' hi sb q => ?_⟩⟩
    · rw [enumD_len] at hi
      rw [rl.length]; exact hi
    · rw [enumD_len, rl.length]
    · obtain ⟨T, x', y', rfl, hT, rfl, rfl, hy⟩ := q
      obtain ⟨d, e3, e4⟩ := rl.getv i y' hy
      refine ⟨_, enumD_get ds 0 i d e3, .tup hT (.cons ?_ (.cons e4 .nil))⟩
      have z : ((0 + i : Nat) : Int) = ((i : Nat) : Int) := by omega
      rw [z]
      exact .int _
  · cases e
theorem ri_zip {p tpos : Pos} {elts : List Expr} {kk : Nat} (hg : Gl X "zip") (hm : X.mg "zip" = none) (hp1 : plainE a = true) (hp2 : plainE b = true) (ha : PE X a (RdE X.K B f)) (hb : PE X b (RdE X.K B g)) :
    PI X (.Tuple elts kk tpos) (.Call (.Name "zip" p) [a, b] [] pos) (RdI X.K B fun r => (f r).bind fun x r1 => (solidR r1 x).bind fun v r2 => (g r2).bind fun y r3 => (solidR r3 y).bind fun w r4 =>
      match listOf v, listOf w with
      | some xs, some ys => .ok (zipD xs ys) r4
      | _, _ => .stuck) := by
  refine PI.imp (pi_zipX hg hm (pa_cons ha (pa_cons hb pa_nil (star_cons hp2)) (star_cons hp1)) (star_cons hp1) (star_any (by simp [hp2]))) fun σ H R ⟨F, r, s, t, r', e, k⟩ => ?_
  obtain ⟨x, r1, e1, e⟩ := bind_inv e
  obtain ⟨v, r2, e2, e⟩ := bind_inv e
  obtain ⟨y, r3, e3, e⟩ := bind_inv e
  obtain ⟨w, r4, e4, e⟩ := bind_inv e
  refine ⟨F, r, s, x, r1, e1, fun xv F1 H1 p1 t1 => ?_⟩
  obtain ⟨F2, p2, h2, _⟩ := solid_post s p1 t1 (solidR_ok e2)
  refine ⟨F2, r2, p2.st, y, r3, e3, fun yv F3 H3 p3 t3 => ?_⟩
  obtain ⟨F4, p4, h4, _⟩ := solid_post p2.st p3 t3 (solidR_ok e4)
  split at e
  · rename_i ds es z1 z2
    cases e
    obtain ⟨b1, a1, xs, rfl, rl1, hS1⟩ := (h2.mono p4.mono).seqX z1
    obtain ⟨b2, a2, ys, rfl, rl2, hS2⟩ := h4.seqX z2
    refine ⟨b1, b2, a1, a2, xs, ys, rfl, hS1 _ p4.st.sub, hS2 _ p4.st.sub, k _ F4 H3 (p2.trans p4) ⟨fun i H hi sb => ⟨⟨hS1 H sb, hS2 H sb⟩, ?_⟩, fun H sb => ⟨⟨hS1 H sb, hS2 H sb⟩, ?_⟩, fun i H q H' hi sb q2 => ?_⟩⟩
    · rw [zipD_len] at hi
      rw [rl1.length, rl2.length]; exact hi
    · rw [zipD_len, rl1.length, rl2.length]
    · obtain ⟨T, x', y', rfl, hT, rfl, hx, hy⟩ := q2
      obtain ⟨d1, q3, q4⟩ := rl1.getv i x' hx
      obtain ⟨d2, q5, q6⟩ := rl2.getv i y' hy
      exact ⟨_, zipD_get ds es i d1 d2 q3 q5, .tup hT (.cons q4 (.cons q6 .nil))⟩
  · cases e
end
end Ev

set_option linter.all false
set_option maxHeartbeats 2000000
/-! Stores to names, alone or in tuples. -/
namespace Ev
open PySem PySem.Spec PyProof.Rows L2
theorem set_same {α : Type} {l : List α} {i : Nat} {x : α} {s : α} (h : l[i]? = some s) : (l.set i x)[i]? = some x := by
  rw [List.getElem?_set_self]
  exact (List.getElem?_eq_some_iff.mp h).1
section
variable {K : Fg} {B : Bs} {F H : Hp} {σ : L2.St} {r : Env}
theorem own_sub {i : Nat} {v : V} {d : D} {a : Addr} (h : Own (σ.set i (some v)) (r.set i (.val d)) a) : Own σ r a := by
  obtain ⟨j, c, q, w⟩ := h
  have ne : j ≠ i ∧ (r[j]? = some (.own c) ∨ r[j]? = some (.bor c)) := by
    rcases q with q | q
    · rcases getset q with ⟨_, z⟩ | ⟨z, q⟩
      · cases z
      · exact ⟨z, .inl q⟩
    · rcases getset q with ⟨_, z⟩ | ⟨z, q⟩
      · cases z
      · exact ⟨z, .inr q⟩
  rw [List.getElem?_set_ne (fun z => ne.1 z.symm)] at w
  exact ⟨j, c, ne.2, w⟩
theorem asn_val {i : Nat} {v : V} {d : D} {s : Sl} (st : StR K B F H σ r) (hv : Rp K F v d) (hi : r[i]? = some s) : StR K B F H (σ.set i (some v)) (r.set i (.val d)) := by
  have hs : ∃ y, σ[i]? = some y := by
    have h1 := (List.getElem?_eq_some_iff.mp hi).1
    rw [← st.len] at h1
    exact ⟨σ[i], by simp [h1]⟩
  obtain ⟨y, hs⟩ := hs
  have mu : ∀ {j : Nat} {c : D}, ((r.set i (.val d))[j]? = some (.own c) ∨ (r.set i (.val d))[j]? = some (.bor c)) → j ≠ i ∧ (r[j]? = some (.own c) ∨ r[j]? = some (.bor c)) := fun {j c} q => by
    rcases q with q | q
    · rcases getset q with ⟨_, z⟩ | ⟨z, q⟩
      · cases z
      · exact ⟨z, .inl q⟩
    · rcases getset q with ⟨_, z⟩ | ⟨z, q⟩
      · cases z
      · exact ⟨z, .inr q⟩
  have sne : ∀ {j : Nat}, j ≠ i → (σ.set i (some v))[j]? = σ[j]? := fun {j} z => List.getElem?_set_ne (fun q => z q.symm)
  refine ⟨st.sub, st.dom, by rw [List.length_set, List.length_set, st.len], fun j c q => ?_, fun j c q => ?_, fun j c a q w => ?_, fun j c a q w => ?_, fun j k c c' a q1 q2 w1 w2 => ?_⟩
  · rcases getset q with ⟨z, z2⟩ | ⟨z, q⟩
    · subst z; cases z2
      exact ⟨v, set_same hs, hv⟩
    · rw [sne z]; exact st.val j c q
  · obtain ⟨z, q⟩ := mu q
    rw [sne z]; exact st.obj j c q
  · obtain ⟨z, q'⟩ := mu (.inl q)
    rw [sne z] at w
    rcases q' with q' | q'
    · exact st.new j c a q' w
    · rcases getset q with ⟨z2, _⟩ | ⟨_, q⟩
      · exact absurd z2 z
      · rw [q'] at q; cases q
  · rcases getset q with ⟨_, z⟩ | ⟨z, q⟩
    · cases z
    · rw [sne z] at w
      exact st.lnt j c a q w
  · obtain ⟨z1, q1⟩ := mu q1
    obtain ⟨z2, q2⟩ := mu q2
    rw [sne z1] at w1
    rw [sne z2] at w2
    exact st.inj j k c c' a q1 q2 w1 w2
theorem asn_own {i : Nat} {p : Addr} {o : HO} {d : D} {s : Sl} (st : StR K B F H σ r) (e1 : H p = some o) (e2 : F p = none) (e3 : ObR K F o d) (no : ¬ Own σ r p) (nb : B.h p = none) (hi : r[i]? = some s) :
    StR K B F H (σ.set i (some (.ref p))) (r.set i (.own d)) ∧ ∀ a, Own (σ.set i (some (.ref p))) (r.set i (.own d)) a → Own σ r a ∨ a = p := by
  have hs : ∃ y, σ[i]? = some y := by
    have h1 := (List.getElem?_eq_some_iff.mp hi).1
    rw [← st.len] at h1
    exact ⟨σ[i], by simp [h1]⟩
  obtain ⟨y, hs⟩ := hs
  have sne : ∀ {j : Nat}, j ≠ i → (σ.set i (some (V.ref p)))[j]? = σ[j]? := fun {j} z => List.getElem?_set_ne (fun q => z q.symm)
  have ss : (σ.set i (some (V.ref p)))[i]? = some (some (.ref p)) := set_same hs
  have mu : ∀ {j : Nat} {c : D}, ((r.set i (.own d))[j]? = some (.own c) ∨ (r.set i (.own d))[j]? = some (.bor c)) → (j = i ∧ c = d) ∨ (j ≠ i ∧ (r[j]? = some (.own c) ∨ r[j]? = some (.bor c))) := fun {j c} q => by
    rcases q with q | q
    · rcases getset q with ⟨z, z2⟩ | ⟨z, q⟩
      · cases z2; exact .inl ⟨z, rfl⟩
      · exact .inr ⟨z, .inl q⟩
    · rcases getset q with ⟨_, z⟩ | ⟨z, q⟩
      · cases z
      · exact .inr ⟨z, .inr q⟩
  have pn : ∀ {j : Nat} {c : D}, (r[j]? = some (.own c) ∨ r[j]? = some (.bor c)) → σ[j]? ≠ some (some (.ref p)) := fun {j c} q w => no ⟨j, c, q, w⟩
  refine ⟨⟨st.sub, st.dom, by rw [List.length_set, List.length_set, st.len], fun j c q => ?_, fun j c q => ?_, fun j c a q w => ?_, fun j c a q w => ?_, fun j k c c' a q1 q2 w1 w2 => ?_⟩, fun a ⟨j, c, q, w⟩ => ?_⟩
  · rcases getset q with ⟨z, z2⟩ | ⟨z, q⟩
    · cases z2
    · rw [sne z]; exact st.val j c q
  · rcases mu q with ⟨rfl, rfl⟩ | ⟨z, q⟩
    · exact ⟨p, o, ss, e1, e2, e3⟩
    · rw [sne z]; exact st.obj j c q
  · rcases mu (.inl q) with ⟨rfl, rfl⟩ | ⟨z, q'⟩
    · rw [ss] at w; cases w; exact nb
    · rw [sne z] at w
      rcases getset q with ⟨z2, _⟩ | ⟨_, q⟩
      · exact absurd z2 z
      · exact st.new j c a q w
  · rcases getset q with ⟨_, z⟩ | ⟨z, q⟩
    · cases z
    · rw [sne z] at w
      exact st.lnt j c a q w
  · rcases mu q1 with ⟨rfl, rfl⟩ | ⟨z1, q1⟩
    · rw [ss] at w1
      cases w1
      rcases mu q2 with ⟨rfl, _⟩ | ⟨z2, q2⟩
      · rfl
      · rw [sne z2] at w2; exact absurd w2 (pn q2)
    · rw [sne z1] at w1
      rcases mu q2 with ⟨rfl, _⟩ | ⟨z2, q2⟩
      · rw [ss] at w2
        cases w2
        rename_i q1' _
        exact absurd w1 (pn q1')
      · rw [sne z2] at w2
        exact st.inj j k c c' a q1 q2 w1 w2
  · rcases mu q with ⟨rfl, rfl⟩ | ⟨z, q⟩
    · rw [ss] at w; cases w; exact .inr rfl
    · rw [sne z] at w; exact .inl ⟨j, c, q, w⟩
end
mutual
def slotsT : IT → List Nat
  | .n i _ => [i]
  | .t l => slotsL l
def slotsL : List IT → List Nat
  | [] => []
  | t :: ts => slotsT t ++ slotsL ts
end
/-- behind stores of values that stay: what else was in the slots is there still -/
structure AsnP (K : Fg) (B : Bs) (F H : Hp) (sl : List Nat) (σ : L2.St) (r : Env) (σ' : L2.St) (r' : Env) : Prop where
  st : StR K B F H σ' r'
  own : ∀ a, Own σ' r' a → Own σ r a
  oth : ∀ (j : Nat), j ∉ sl → σ'[j]? = σ[j]? ∧ r'[j]? = r[j]?
  bor : ∀ (j : Nat) (d : D), r[j]? = some (.bor d) → r'[j]? = some (.bor d) ∧ σ'[j]? = σ[j]?
  ren : ∀ (j : Nat) (d : D), r'[j]? = some (.bor d) → r[j]? = some (.bor d)
  len : σ'.length = σ.length
theorem AsnP.trans {K : Fg} {B : Bs} {F H : Hp} {l m : List Nat} {σ σ1 σ2 : L2.St} {r r1 r2 : Env} (a : AsnP K B F H l σ r σ1 r1) (b : AsnP K B F H m σ1 r1 σ2 r2) : AsnP K B F H (l ++ m) σ r σ2 r2 where
  st := b.st
  own := fun c h => a.own c (b.own c h)
  oth := fun j h => by
    rw [List.mem_append, not_or] at h
    obtain ⟨h1, h2⟩ := a.oth j h.1
    obtain ⟨h3, h4⟩ := b.oth j h.2
    exact ⟨h3.trans h1, h4.trans h2⟩
  bor := fun j d h => by
    obtain ⟨h1, h2⟩ := a.bor j d h
    obtain ⟨h3, h4⟩ := b.bor j d h1
    exact ⟨h3, h4.trans h2⟩
  ren := fun j d h => a.ren j d (b.ren j d h)
  len := b.len.trans a.len
def RdG (K : Fg) (B : Bs) (t : IT) : TG := fun v σ H Q => ∃ F r d, StR K B F H σ r ∧ Rp K F v d ∧ ∃ r', asn t (.d d) r = .ok () r' ∧ ∀ σ', AsnP K B F H (slotsT t) σ r σ' r' → Q σ' H
def RdGs (K : Fg) (B : Bs) (t : List IT) : TGs := fun vs σ H Q => ∃ F r ds, StR K B F H σ r ∧ RpL K F vs ds ∧ ∃ r', asnL t ds r = .ok () r' ∧ ∀ σ', AsnP K B F H (slotsL t) σ r σ' r' → Q σ' H
theorem asn1_val {K : Fg} {B : Bs} {F H : Hp} {σ : L2.St} {r r' : Env} {i : Nat} {v : V} {d : D} (st : StR K B F H σ r) (hv : Rp K F v d) (e : asn1 i false (.d d) r = .ok () r') : AsnP K B F H [i] σ r (σ.set i (some v)) r' := by
  unfold asn1 at e
  split at e
  · cases e
  · cases e
  · rename_i s nb hs
    rw [if_neg (by decide)] at e
    cases (show Res.ok () (r.set i (.val d)) = Res.ok () r' from e)
    refine ⟨asn_val st hv hs, fun a => own_sub, fun j h => ?_, fun j c h => ?_, fun j c h => ?_, List.length_set⟩
    · have z : j ≠ i := by simpa using h
      exact ⟨List.getElem?_set_ne (fun q => z q.symm), List.getElem?_set_ne (fun q => z q.symm)⟩
    · have z : j ≠ i := fun z => by subst z; rw [h] at hs; cases hs; exact nb c rfl
      exact ⟨by rw [List.getElem?_set_ne (fun q => z q.symm)]; exact h, List.getElem?_set_ne (fun q => z q.symm)⟩
    · rcases getset h with ⟨_, z⟩ | ⟨_, h⟩
      · cases z
      · exact h
section
variable {X : Cx} {B : Bs} {pos : Pos}
theorem rg_name {i : Nat} {x : Str} (hN : X.N.Nodup) (hi : X.N[i]? = some x) (hx : Loc X.env.scope x) (hf : X.fn x = true ∨ X.env.scope.names.lookup x = some .local) : PG X (.Name x pos) (RdG X.K B (.n i false)) := by
  refine PG.imp (pg_name hN hi hx hf) fun v σ H Q ⟨F, r, d, st, hv, r', e, k⟩ => ?_
  exact k _ (asn1_val st hv e)
theorem PG.weak {e : Expr} {t t' : TG} (h : PG X e t) (w : ∀ v σ H Q, t' v σ H Q → t v σ H Q) : PG X e t' := ⟨fun pins s σ H v u Q I r q => h.run pins s σ H v u Q I r (w v σ H Q q)⟩
theorem PGs.weak {e : List Expr} {t t' : TGs} (h : PGs X e t) (w : ∀ v σ H Q, t' v σ H Q → t v σ H Q) : PGs X e t' := ⟨fun pins s σ H v u Q I r q => h.run pins s σ H v u Q I r (w v σ H Q q)⟩
theorem AsnP.refl {K : Fg} {B : Bs} {F H : Hp} {σ : L2.St} {r : Env} (s : StR K B F H σ r) : AsnP K B F H [] σ r σ r := ⟨s, fun _ h => h, fun _ _ => ⟨rfl, rfl⟩, fun _ _ h => ⟨h, rfl⟩, fun _ _ h => h, rfl⟩
theorem rgs_nil : PGs X [] (RdGs X.K B []) := by
  refine PGs.weak pgs_nil fun vs σ H Q ⟨F, r, ds, st, rl, r', e, k⟩ => ?_
  cases rl with
  | nil =>
    cases (show Res.ok () r = Res.ok () r' from e)
    exact ⟨rfl, k _ (AsnP.refl st)⟩
  | cons h q => cases (show (Res.stuck : Res Unit) = Res.ok () r' from e)
theorem each_cons {e : Expr} {es : List Expr} {env : PySem.Env} (h : plainE e = true) : assignEach (e :: es) env = (false, assign e env) :: assignEach es env := by
  cases e <;> first | rfl | (simp [plainE] at h)
theorem each_len {env : PySem.Env} : ∀ {es : List Expr}, es.all plainE = true → (assignEach es env).length = es.length ∧ (assignEach es env).findIdx? (·.1) = none
  | [], _ => ⟨rfl, rfl⟩
  | e :: es, h => by
    rw [List.all_cons, Bool.and_eq_true] at h
    obtain ⟨h1, h2⟩ := each_len (env := env) h.2
    rw [each_cons h.1]
    refine ⟨by rw [List.length_cons, List.length_cons, h1], ?_⟩
    rw [List.findIdx?_cons]
    simp only [Bool.false_eq_true, if_false]
    rw [h2]
    rfl
theorem rgs_cons {e : Expr} {es : List Expr} {t : IT} {ts : List IT} (hp : plainE e = true) (h1 : PG X e (RdG X.K B t)) (h2 : PGs X es (RdGs X.K B ts)) : PGs X (e :: es) (RdGs X.K B (t :: ts)) := by
  refine PGs.weak (pgs_cons h1 h2 (by rw [each_cons hp]; rfl)) fun vs σ H Q ⟨F, r, ds, st, rl, r', e, k⟩ => ?_
  cases rl with
  | nil => cases (show (Res.stuck : Res Unit) = Res.ok () r' from e)
  | @cons v vs d ds hv rl =>
    obtain ⟨_, r1, e1, e2⟩ := bind_inv (show (asn t (.d d) r).bind (fun _ r' => asnL ts ds r') = Res.ok () r' from e)
    refine ⟨v, vs, rfl, F, r, d, st, hv, r1, e1, fun σ1 p1 => ⟨F, r1, ds, p1.st, rl, r', e2, fun σ2 p2 => ?_⟩⟩
    exact k σ2 (p1.trans p2)
theorem rg_tup {es : List Expr} {k : Nat} {ts : List IT} (hc : X.calm = true) (hp : es.all plainE = true) (hl : es.length = ts.length) (h : PGs X es (RdGs X.K B ts)) : PG X (.Tuple es k pos) (RdG X.K B (.t ts)) := by
  refine PG.weak (pg_tup hc h (each_len hp).1 (each_len hp).2) fun v σ H Q ⟨F, r, d, st, hv, r', e, k⟩ => ?_
  unfold asn at e
  split at e
  · rename_i xs q
    cases (show some d = some (PyData.tuple xs) from q)
    cases hv with
    | tup h1 h2 =>
      have hlen : xs.length = es.length := by
        have key : ∀ (ts : List IT) (xs : List D) (r r' : Env), asnL ts xs r = .ok () r' → xs.length = ts.length := fun ts => by
          induction ts with
          | nil => intro xs r r' e; cases xs with
            | nil => rfl
            | cons => cases (show (Res.stuck : Res Unit) = Res.ok () r' from e)
          | cons t ts ih => intro xs r r' e; cases xs with
            | nil => cases (show (Res.stuck : Res Unit) = Res.ok () r' from e)
            | cons x xs =>
              obtain ⟨_, r1, _, e2⟩ := bind_inv (show (asn t (.d x) r).bind (fun _ r' => asnL ts xs r') = Res.ok () r' from e)
              rw [List.length_cons, List.length_cons, ih xs r1 r' e2]
        rw [key ts xs r r' e, hl]
      exact ⟨_, _, rfl, st.sub.sqt h1, by rw [h2.length, hlen], F, r, xs, st, h2, r', e, k⟩
  · cases e
end
end Ev

set_option linter.all false
set_option maxHeartbeats 4000000
/-! List comprehensions. -/
namespace Ev
open PySem PySem.Spec PyProof.Rows L2
/-- what a piece of a run does to the heap: O the objects that it may change -/
structure Mv (O O' : Addr → Prop) (F H F' H' : Hp) : Prop where
  mono : Sub F F'
  frame : ∀ a o, H a = some o → ¬ O a → H' a = some o
  dom : ∀ a, H a ≠ none → H' a ≠ none
  fr : ∀ a, F' a ≠ none → F a ≠ none ∨ H a = none ∨ O a
  own : ∀ a, O' a → O a
theorem Mv.refl {O : Addr → Prop} {F H : Hp} : Mv O O F H F H := ⟨Sub.refl _, fun _ _ h _ => h, fun _ h => h, fun _ h => .inl h, fun _ h => h⟩
theorem Mv.less {O O' : Addr → Prop} {F H : Hp} (h : ∀ a, O' a → O a) : Mv O O' F H F H := ⟨Sub.refl _, fun _ _ h _ => h, fun _ h => h, fun _ h => .inl h, h⟩
theorem Mv.trans {O O1 O2 : Addr → Prop} {F H F1 H1 F2 H2 : Hp} (a : Mv O O1 F H F1 H1) (b : Mv O1 O2 F1 H1 F2 H2) : Mv O O2 F H F2 H2 where
  mono := a.mono.trans b.mono
  frame := fun c o h n => b.frame c o (a.frame c o h n) fun q => n (a.own c q)
  dom := fun c h => b.dom c (a.dom c h)
  fr := fun c h => by
    rcases b.fr c h with q | q | q
    · exact a.fr c q
    · exact .inr (.inl (Classical.byContradiction fun n => a.dom c n q))
    · exact .inr (.inr (a.own c q))
  own := fun c h => a.own c (b.own c h)
theorem Post.mv {K : Fg} {B : Bs} {σ : L2.St} {r r' : Env} {F H F' H' : Hp} (p : Post K B σ r F H r' F' H') : Mv (Own σ r) (Own σ r') F H F' H' := ⟨p.mono, p.frame, p.dom, p.fr, p.own⟩
theorem Mv.post {K : Fg} {B : Bs} {σ : L2.St} {r r' : Env} {F H F' H' : Hp} (m : Mv (Own σ r) (Own σ r') F H F' H') (s : StR K B F' H' σ r') : Post K B σ r F H r' F' H' := ⟨s, m.mono, m.frame, m.dom, m.fr, m.own⟩
theorem wipe_get (σ : L2.St) (j : Nat) : ∀ vs : List Nat, (wipe σ vs)[j]? = if j ∈ vs then σ[j]?.map (fun _ => none) else σ[j]?
  | [] => by simp [wipe]
  | v :: vs => by
    have ih := wipe_get σ j vs
    show ((wipe σ vs).set v none)[j]? = _
    by_cases e : v = j
    · subst e
      rw [if_pos List.mem_cons_self, List.getElem?_set]
      rw [if_pos rfl, wipe_length]
      by_cases h : v < σ.length
      · rw [if_pos h, List.getElem?_eq_getElem h]; rfl
      · rw [if_neg h, List.getElem?_eq_none (by omega)]; rfl
    · rw [List.getElem?_set_ne e, ih]
      by_cases h : j ∈ vs
      · rw [if_pos h, if_pos (List.mem_cons_of_mem _ h)]
      · rw [if_neg h, if_neg (by simp only [List.mem_cons, not_or]; exact ⟨fun z => e z.symm, h⟩)]
theorem wipeE_len (r : Env) : ∀ vs : List Nat, (wipeE vs r).length = r.length
  | [] => rfl
  | v :: vs => by
    show ((wipeE vs r).set v .un).length = _
    rw [List.length_set, wipeE_len r vs]
theorem wipeE_get (r : Env) (j : Nat) : ∀ vs : List Nat, (wipeE vs r)[j]? = if j ∈ vs then r[j]?.map (fun _ => .un) else r[j]?
  | [] => by simp [wipeE]
  | v :: vs => by
    have ih := wipeE_get r j vs
    show ((wipeE vs r).set v .un)[j]? = _
    by_cases e : v = j
    · subst e
      rw [if_pos List.mem_cons_self, List.getElem?_set]
      rw [if_pos rfl, wipeE_len]
      by_cases h : v < r.length
      · rw [if_pos h, List.getElem?_eq_getElem h]; rfl
      · rw [if_neg h, List.getElem?_eq_none (by omega)]; rfl
    · rw [List.getElem?_set_ne e, ih]
      by_cases h : j ∈ vs
      · rw [if_pos h, if_pos (List.mem_cons_of_mem _ h)]
      · rw [if_neg h, if_neg (by simp only [List.mem_cons, not_or]; exact ⟨fun z => e z.symm, h⟩)]
theorem backE_len (r0 r : Env) : ∀ vs : List Nat, (backE r0 vs r).length = r.length
  | [] => rfl
  | v :: vs => by
    show ((backE r0 vs r).set v _).length = _
    rw [List.length_set, backE_len r0 r vs]
theorem backE_get (r0 r : Env) (hl : r0.length = r.length) (j : Nat) : ∀ vs : List Nat, (backE r0 vs r)[j]? = if j ∈ vs then r0[j]? else r[j]?
  | [] => by simp [backE]
  | v :: vs => by
    have ih := backE_get r0 r hl j vs
    show ((backE r0 vs r).set v (r0.getD v .un))[j]? = _
    by_cases e : v = j
    · subst e
      rw [if_pos List.mem_cons_self, List.getElem?_set, if_pos rfl, backE_len, ← hl]
      by_cases h : v < r0.length
      · rw [if_pos h, List.getElem?_eq_getElem h]
        simp [h]
      · rw [if_neg h, List.getElem?_eq_none (by omega)]
    · rw [List.getElem?_set_ne e, ih]
      by_cases h : j ∈ vs
      · rw [if_pos h, if_pos (List.mem_cons_of_mem _ h)]
      · rw [if_neg h, if_neg (by simp only [List.mem_cons, not_or]; exact ⟨fun z => e z.symm, h⟩)]
theorem wipe_eq {σ σ2 : L2.St} {vs : List Nat} (hl : σ2.length = σ.length) (h : ∀ j, j ∉ vs → σ2[j]? = (wipe σ vs)[j]?) : wipe σ2 vs = wipe σ vs := by
  apply List.ext_getElem?
  intro j
  rw [wipe_get σ2, wipe_get σ]
  by_cases hj : j ∈ vs
  · rw [if_pos hj, if_pos hj]
    by_cases hb : j < σ.length
    · rw [List.getElem?_eq_getElem hb, List.getElem?_eq_getElem (by omega)]; rfl
    · rw [List.getElem?_eq_none (by omega), List.getElem?_eq_none (by omega)]
  · rw [if_neg hj, if_neg hj, h j hj, wipe_get, if_neg hj]
section
variable {K : Fg} {B : Bs} {F H : Hp} {σ : L2.St} {r : Env}
theorem wiped_mu {vs : List Nat} {j : Nat} {s : Sl} (h : (wipeE vs r)[j]? = some s) (hs : s ≠ .un) : j ∉ vs ∧ r[j]? = some s := by
  rw [wipeE_get] at h
  by_cases hj : j ∈ vs
  · rw [if_pos hj] at h
    rw [Option.map_eq_some_iff] at h
    obtain ⟨_, _, z⟩ := h
    exact absurd z.symm hs
  · rw [if_neg hj] at h
    exact ⟨hj, h⟩
theorem st_wipe (s : StR K B F H σ r) (vs : List Nat) : StR K B F H (wipe σ vs) (wipeE vs r) := by
  have sg : ∀ {j : Nat}, j ∉ vs → (wipe σ vs)[j]? = σ[j]? := fun {j} h => by rw [wipe_get, if_neg h]
  have mu : ∀ {j : Nat} {c : D}, ((wipeE vs r)[j]? = some (.own c) ∨ (wipeE vs r)[j]? = some (.bor c)) → j ∉ vs ∧ (r[j]? = some (.own c) ∨ r[j]? = some (.bor c)) := fun {j c} q => by
    rcases q with q | q
    · obtain ⟨a, b⟩ := wiped_mu q (by simp)
      exact ⟨a, .inl b⟩
    · obtain ⟨a, b⟩ := wiped_mu q (by simp)
      exact ⟨a, .inr b⟩
  refine ⟨s.sub, s.dom, by rw [wipe_length, wipeE_len, s.len], fun j d q => ?_, fun j d q => ?_, fun j d a q w => ?_, fun j d a q w => ?_, fun i j d e a q1 q2 w1 w2 => ?_⟩
  · obtain ⟨h1, h2⟩ := wiped_mu q (by simp)
    rw [sg h1]; exact s.val j d h2
  · obtain ⟨h1, h2⟩ := mu q
    rw [sg h1]; exact s.obj j d h2
  · obtain ⟨h1, h2⟩ := wiped_mu q (by simp)
    rw [sg h1] at w; exact s.new j d a h2 w
  · obtain ⟨h1, h2⟩ := wiped_mu q (by simp)
    rw [sg h1] at w; exact s.lnt j d a h2 w
  · obtain ⟨h1, h2⟩ := mu q1
    obtain ⟨h3, h4⟩ := mu q2
    rw [sg h1] at w1
    rw [sg h3] at w2
    exact s.inj i j d e a h2 h4 w1 w2
theorem own_wipe {vs : List Nat} {a : Addr} (h : Own (wipe σ vs) (wipeE vs r) a) : Own σ r a := by
  obtain ⟨j, d, q, w⟩ := h
  have mu : j ∉ vs ∧ (r[j]? = some (.own d) ∨ r[j]? = some (.bor d)) := by
    rcases q with q | q
    · obtain ⟨a, b⟩ := wiped_mu q (by simp)
      exact ⟨a, .inl b⟩
    · obtain ⟨a, b⟩ := wiped_mu q (by simp)
      exact ⟨a, .inr b⟩
  rw [wipe_get, if_neg mu.1] at w
  exact ⟨j, d, mu.2, w⟩
/-- the object at p, that nothing knows, is another one -/
theorem st_upd {p : Addr} {o : HO} (s : StR K B F H σ r) (e : F p = none) (no : ¬ Own σ r p) : StR K B F (upd H p o) σ r where
  sub := fun b u q => by
    rw [upd_ne (ne_of_none q e)]
    exact s.sub b u q
  dom := fun b q => by
    by_cases z : b = p
    · subst z; rw [upd_same]; simp
    · rw [upd_ne z]; exact s.dom b q
  len := s.len
  val := s.val
  obj := fun j d q => by
    obtain ⟨a, u, e1, e2, e3, e4⟩ := s.obj j d q
    refine ⟨a, u, e1, ?_, e3, e4⟩
    rw [upd_ne (fun z => no (by subst z; exact ⟨j, d, q, e1⟩))]
    exact e2
  new := s.new
  lnt := s.lnt
  inj := s.inj
/-- the slots of the block's own names are what they were -/
theorem unwipe {r1 r2 : Env} {F1 H1 F2 H2 : Hp} {vs : List Nat} (s1 : StR K B F1 H1 σ r1) (s2 : StR K B F2 H2 (wipe σ vs) (wipeE vs r2)) (m : Mv (Own (wipe σ vs) (wipeE vs r1)) (Own (wipe σ vs) (wipeE vs r2)) F1 H1 F2 H2) :
    StR K B F2 H2 σ (backE r1 vs r2) ∧ Mv (Own σ r1) (Own σ (backE r1 vs r2)) F1 H1 F2 H2 := by
  have hl : r1.length = r2.length := by
    have e1 := s1.len
    have e2 := s2.len
    rw [wipe_length, wipeE_len] at e2
    omega
  have sg : ∀ {j : Nat}, j ∉ vs → (wipe σ vs)[j]? = σ[j]? := fun {j} h => by rw [wipe_get, if_neg h]
  have wg : ∀ {j : Nat}, j ∉ vs → (wipeE vs r2)[j]? = r2[j]? := fun {j} h => by rw [wipeE_get, if_neg h]
  have wg1 : ∀ {j : Nat}, j ∉ vs → (wipeE vs r1)[j]? = r1[j]? := fun {j} h => by rw [wipeE_get, if_neg h]
  have bi : ∀ {j : Nat}, j ∈ vs → (backE r1 vs r2)[j]? = r1[j]? := fun {j} h => by rw [backE_get _ _ hl, if_pos h]
  have bo : ∀ {j : Nat}, j ∉ vs → (backE r1 vs r2)[j]? = r2[j]? := fun {j} h => by rw [backE_get _ _ hl, if_neg h]
  -- an own object of the later state, its slot not hidden, was an own object of the earlier one, its slot not hidden
  have was : ∀ {j : Nat} {d : D} {a : Addr}, j ∉ vs → (r2[j]? = some (.own d) ∨ r2[j]? = some (.bor d)) → σ[j]? = some (some (.ref a)) → ∃ i c, i ∉ vs ∧ (r1[i]? = some (.own c) ∨ r1[i]? = some (.bor c)) ∧ σ[i]? = some (some (.ref a)) := fun {j d a} hj q w => by
    obtain ⟨i, c, q1, w1⟩ := m.own a ⟨j, d, by rw [wg hj]; exact q, by rw [sg hj]; exact w⟩
    have mu : i ∉ vs ∧ (r1[i]? = some (.own c) ∨ r1[i]? = some (.bor c)) := by
      rcases q1 with q1 | q1
      · obtain ⟨a, b⟩ := wiped_mu q1 (by simp)
        exact ⟨a, .inl b⟩
      · obtain ⟨a, b⟩ := wiped_mu q1 (by simp)
        exact ⟨a, .inr b⟩
    rw [sg mu.1] at w1
    exact ⟨i, c, mu.1, mu.2, w1⟩
  have hid : ∀ {j : Nat} {d : D} {a : Addr}, j ∈ vs → (r1[j]? = some (.own d) ∨ r1[j]? = some (.bor d)) → σ[j]? = some (some (.ref a)) → ¬ Own (wipe σ vs) (wipeE vs r1) a := fun {j d a} hj q w z => by
    obtain ⟨i, c, q1, w1⟩ := z
    have mu : i ∉ vs ∧ (r1[i]? = some (.own c) ∨ r1[i]? = some (.bor c)) := by
      rcases q1 with q1 | q1
      · obtain ⟨a, b⟩ := wiped_mu q1 (by simp)
        exact ⟨a, .inl b⟩
      · obtain ⟨a, b⟩ := wiped_mu q1 (by simp)
        exact ⟨a, .inr b⟩
    rw [sg mu.1] at w1
    exact mu.1 (s1.inj i j c d a mu.2 q w1 w ▸ hj)
  refine ⟨⟨s2.sub, s2.dom, by rw [backE_len, ← hl]; exact s1.len, fun j d q => ?_, fun j d q => ?_, fun j d a q w => ?_, fun j d a q w => ?_, fun i j d e a q1 q2 w1 w2 => ?_⟩, m.mono, fun a o q no => m.frame a o q fun z => no (own_wipe z), m.dom, fun a q => ?_, fun a z => ?_⟩
  · by_cases hj : j ∈ vs
    · rw [bi hj] at q
      obtain ⟨x, e1, e2⟩ := s1.val j d q
      exact ⟨x, e1, e2.mono m.mono⟩
    · rw [bo hj] at q
      have := s2.val j d (by rw [wg hj]; exact q)
      rw [sg hj] at this
      exact this
  · by_cases hj : j ∈ vs
    · rw [bi hj] at q
      obtain ⟨a, o, e1, e2, e3, e4⟩ := s1.obj j d q
      have nw := hid hj q e1
      refine ⟨a, o, e1, m.frame a o e2 nw, ?_, e4.mono m.mono⟩
      cases z : F2 a with
      | none => rfl
      | some u =>
        rcases m.fr a (by rw [z]; simp) with w | w | w
        · exact absurd e3 w
        · rw [e2] at w; cases w
        · exact absurd w nw
    · rw [bo hj] at q
      have := s2.obj j d (by rw [wg hj]; exact q)
      rw [sg hj] at this
      exact this
  · by_cases hj : j ∈ vs
    · rw [bi hj] at q
      exact s1.new j d a q w
    · rw [bo hj] at q
      exact s2.new j d a (by rw [wg hj]; exact q) (by rw [sg hj]; exact w)
  · by_cases hj : j ∈ vs
    · rw [bi hj] at q
      exact s1.lnt j d a q w
    · rw [bo hj] at q
      exact s2.lnt j d a (by rw [wg hj]; exact q) (by rw [sg hj]; exact w)
  · by_cases hi : i ∈ vs
    · rw [bi hi] at q1
      by_cases hj : j ∈ vs
      · rw [bi hj] at q2
        exact s1.inj i j d e a q1 q2 w1 w2
      · rw [bo hj] at q2
        obtain ⟨i', c, n', q', w'⟩ := was hj q2 w2
        exact absurd (s1.inj i i' d c a q1 q' w1 w' ▸ hi) n'
    · rw [bo hi] at q1
      by_cases hj : j ∈ vs
      · rw [bi hj] at q2
        obtain ⟨i', c, n', q', w'⟩ := was hi q1 w1
        exact absurd (s1.inj j i' e c a q2 q' w2 w' ▸ hj) n'
      · rw [bo hj] at q2
        exact s2.inj i j d e a (by rw [wg hi]; exact q1) (by rw [wg hj]; exact q2) (by rw [sg hi]; exact w1) (by rw [sg hj]; exact w2)
  · rcases m.fr a q with w | w | w
    · exact .inl w
    · exact .inr (.inl w)
    · exact .inr (.inr (own_wipe w))
  · obtain ⟨j, d, q, w⟩ := z
    by_cases hj : j ∈ vs
    · rw [bi hj] at q
      exact ⟨j, d, q, w⟩
    · rw [bo hj] at q
      obtain ⟨i, c, _, q', w'⟩ := was hj q w
      exact ⟨i, c, q', w'⟩
end
theorem Out.mono {K : Fg} {F G H H' : Hp} {t : TV} {z : V} (s : Sub F G) (h : Out K F H t z H') : Out K G H t z H' := by
  cases h with
  | same h => exact .same (h.mono s)
  | tup n r => exact .tup n (r.mono s)
  | lst n r => exact .lst n (r.mono s)
end Ev

set_option linter.all false
set_option maxHeartbeats 4000000
namespace Ev
open PySem PySem.Spec PyProof.Rows L2
/-- a block's state: the slots vs are its own; the new list stands at D, the items so far are ads -/
structure BlkS (K : Fg) (B : Bs) (F H : Hp) (σ : L2.St) (vs : List Nat) (r : Env) (D : Addr) (ads : List Ev.D) : Prop where
  st : StR K B F H (wipe σ vs) (wipeE vs r)
  nD : F D = none
  no : ¬ Own (wipe σ vs) (wipeE vs r) D
  acc : ∃ acc, H D = some (.lst acc) ∧ RpL K F acc ads
abbrev OD (σ : L2.St) (vs : List Nat) (r : Env) (D : Addr) : Addr → Prop := fun a => Own (wipe σ vs) (wipeE vs r) a ∨ a = D
/-- one turn -/
def TurnOk (K : Fg) (B : Bs) (σ : L2.St) (vs : List Nat) (D : Addr) (f : Ev.D → Env → Res (List Ev.D)) (T : V → Hp → (Hp → Prop) → Prop) : Prop :=
  ∀ (F H : Hp) (x : V) (d : Ev.D) (r r' : Env) (ys ads : List Ev.D) (Nx : Hp → Prop), BlkS K B F H σ vs r D ads → Rp K F x d → f d r = .ok ys r' → (ads ++ ys).length ≤ SZ →
    (∀ F' H', BlkS K B F' H' σ vs r' D (ads ++ ys) → Mv (OD σ vs r D) (OD σ vs r' D) F H F' H' → (∀ a, Own (wipe σ vs) (wipeE vs r') a → Own (wipe σ vs) (wipeE vs r) a) → Nx H') → T x H Nx
theorem compL_cons {f : D → Env → Res (List D)} {x : D} {xs ys : List D} {r rE : Env} (h : compL f (x :: xs) r = .ok ys rE) : ∃ as r' bs, f x r = .ok as r' ∧ compL f xs r' = .ok bs rE ∧ ys = as ++ bs := by
  unfold compL at h
  split at h
  · rename_i as r' e1
    split at h
    · rename_i bs r2 e2
      cases h
      exact ⟨as, r', bs, e1, e2, rfl⟩
    · cases h
  · cases h
theorem loop_gen {K : Fg} {B : Bs} {F0 F1 H1 : Hp} {σ : L2.St} {vs : List Nat} {D : Addr} {f : Ev.D → Env → Res (List Ev.D)} {T : V → Hp → (Hp → Prop) → Prop} {J : It} {xs ys ads : List Ev.D} {r1 rE : Env} {Qd : Hp → Prop}
    (hT : TurnOk K B σ vs D f T) (wk : WkD K F0 J xs) (sb0 : Sub F0 F1) (b0 : BlkS K B F1 H1 σ vs r1 D ads) (hc : compL f xs r1 = .ok ys rE) (hl : (ads ++ ys).length ≤ SZ)
    (fin : ∀ F' H', BlkS K B F' H' σ vs rE D (ads ++ ys) → Mv (OD σ vs r1 D) (OD σ vs rE D) F1 H1 F' H' → (∀ a, Own (wipe σ vs) (wipeE vs rE) a → Own (wipe σ vs) (wipeE vs r1) a) → Qd H') :
    ∃ W : Nat → Nat → Hp → Prop, (∃ m, W 0 m H1) ∧ ∀ i m H, W i m H → (J.stop i H ∧ Qd H) ∨ (J.go i H ∧ ∃ Nx : Hp → Prop, (∀ H', Nx H' → ∃ m', m' < m ∧ W (i + 1) m' H') ∧ ∀ x H', J.yld i H x H' → T x H' Nx) := by
  refine ⟨fun i m H => m = xs.length - i ∧ i ≤ xs.length ∧ ∃ F r as bs, BlkS K B F H σ vs r D (ads ++ as) ∧ Mv (OD σ vs r1 D) (OD σ vs r D) F1 H1 F H ∧ (∀ a, Own (wipe σ vs) (wipeE vs r) a → Own (wipe σ vs) (wipeE vs r1) a) ∧ compL f (xs.drop i) r = .ok bs rE ∧ as ++ bs = ys, ⟨xs.length, by simp, Nat.zero_le _, F1, r1, [], ys, by simpa using b0, Mv.refl, fun _ h => h, hc, rfl⟩, fun i m H => ?_⟩
  rintro ⟨rfl, hi, F, r, as, bs, bs0, mv, ow, hcl, hy⟩
  have sb : Sub F0 F := sb0.trans mv.mono
  by_cases hlt : i < xs.length
  · have hd : xs.drop i = xs[i] :: xs.drop (i + 1) := List.drop_eq_getElem_cons hlt
    rw [hd] at hcl
    obtain ⟨cs, r', ds, e1, e2, e3⟩ := compL_cons hcl
    refine .inr ⟨wk.goes i H hlt (sb.trans bs0.st.sub), fun H' => (∃ F' r' as' bs', BlkS K B F' H' σ vs r' D (ads ++ as') ∧ Mv (OD σ vs r1 D) (OD σ vs r' D) F1 H1 F' H' ∧ (∀ a, Own (wipe σ vs) (wipeE vs r') a → Own (wipe σ vs) (wipeE vs r1) a) ∧ compL f (xs.drop (i + 1)) r' = .ok bs' rE ∧ as' ++ bs' = ys),
      fun H' q => ⟨xs.length - (i + 1), by omega, rfl, hlt, q⟩, fun x H' y => ?_⟩
    obtain ⟨d, hd2, out⟩ := wk.yields i H x H' hlt (sb.trans bs0.st.sub) y
    have ed : d = xs[i] := by
      rw [List.getElem?_eq_getElem hlt] at hd2
      exact (Option.some.inj hd2).symm
    subst ed
    obtain ⟨F3, p3, t3⟩ := (out.mono sb).post bs0.st
    have nD3 : F3 D = none := by
      cases z : F3 D with
      | none => rfl
      | some u =>
        obtain ⟨acc, ha, _⟩ := bs0.acc
        rcases p3.fr D (by rw [z]; simp) with w | w | w
        · exact absurd bs0.nD w
        · rw [ha] at w; cases w
        · exact absurd w bs0.no
    have b3 : BlkS K B F3 H' σ vs r D (ads ++ as) := by
      obtain ⟨acc, ha, hr⟩ := bs0.acc
      exact ⟨p3.st, nD3, bs0.no, acc, p3.frame D _ ha bs0.no, hr.mono p3.mono⟩
    have mv3 : Mv (OD σ vs r D) (OD σ vs r D) F H F3 H' := ⟨p3.mono, fun a o h n => p3.frame a o h fun z => n (.inl z), p3.dom, fun a h => by
      rcases p3.fr a h with w | w | w
      · exact .inl w
      · exact .inr (.inl w)
      · exact .inr (.inr (.inl w)), fun _ h => h⟩
    refine hT F3 H' x _ r r' cs (ads ++ as) _ b3 t3 e1 ?_ fun F4 H4 b4 mv4 ow4 => ?_
    · have hh : ((ads ++ as) ++ cs).length ≤ (ads ++ ys).length := by
        rw [← hy, e3]
        simp only [List.length_append]
        omega
      exact Nat.le_trans hh hl
    · refine ⟨F4, r', as ++ cs, ds, by rw [← List.append_assoc]; exact b4, (mv.trans mv3).trans mv4, fun a h => ow a (ow4 a h), e2, ?_⟩
      rw [List.append_assoc, ← e3, hy]
  · have e : i = xs.length := by omega
    subst e
    rw [List.drop_length] at hcl
    cases hcl
    rw [List.append_nil] at hy
    subst hy
    exact .inl ⟨wk.stops H (sb.trans bs0.st.sub), fin F H bs0 mv ow⟩
/-- an expression's steps within a turn leave the new list as it is -/
theorem blk_keep {F H F' H' : Hp} {O O' : Addr → Prop} {D : Addr} {o : HO} (m : Mv O O' F H F' H') (hD : H D = some o) (nD : F D = none) (no : ¬ O D) : H' D = some o ∧ F' D = none := by
  refine ⟨m.frame D o hD no, ?_⟩
  cases z : F' D with
  | none => rfl
  | some u =>
    rcases m.fr D (by rw [z]; simp) with w | w | w
    · exact absurd nD w
    · rw [hD] at w; cases w
    · exact absurd w no
theorem Mv.withD {O O' : Addr → Prop} {F H F' H' : Hp} {D : Addr} (m : Mv O O' F H F' H') : Mv (fun a => O a ∨ a = D) (fun a => O' a ∨ a = D) F H F' H' :=
  ⟨m.mono, fun a o h n => m.frame a o h fun z => n (.inl z), m.dom, fun a h => by
      rcases m.fr a h with w | w | w
      · exact .inl w
      · exact .inr (.inl w)
      · exact .inr (.inr (.inl w)), fun a h => h.elim (fun z => .inl (m.own a z)) .inr⟩
theorem Mv.put {O : Addr → Prop} {F H : Hp} {D : Addr} {o u : HO} (hD : H D = some u) : Mv (fun a => O a ∨ a = D) (fun a => O a ∨ a = D) F H F (upd H D o) :=
  ⟨Sub.refl _, fun a v h n => by rw [upd_ne (fun z => n (.inr z))]; exact h, fun a h => by
      by_cases z : a = D
      · subst z; rw [upd_same]; simp
      · rw [upd_ne z]; exact h, fun a h => .inl h, fun _ h => h⟩
theorem wipeE_eq {r r2 : Env} {vs : List Nat} (hl : r2.length = r.length) (h : ∀ j, j ∉ vs → r2[j]? = (wipeE vs r)[j]?) : wipeE vs r2 = wipeE vs r := by
  apply List.ext_getElem?
  intro j
  rw [wipeE_get r2, wipeE_get r]
  by_cases hj : j ∈ vs
  · rw [if_pos hj, if_pos hj]
    by_cases hb : j < r.length
    · rw [List.getElem?_eq_getElem hb, List.getElem?_eq_getElem (by omega)]; rfl
    · rw [List.getElem?_eq_none (by omega), List.getElem?_eq_none (by omega)]
  · rw [if_neg hj, if_neg hj, h j hj, wipeE_get, if_neg hj]
/-- the element is appended -/
theorem put_item {K : Fg} {B : Bs} {F H : Hp} {σ σ2 : L2.St} {vs : List Nat} {r6 : Env} {D : Addr} {acc : List V} {ads : List Ev.D} {y : V} {v : Ev.D} (s : StR K B F H σ2 r6) (hw : wipe σ2 vs = wipe σ vs) (hD : H D = some (.lst acc)) (nD : F D = none) (hr : RpL K F acc ads) (hv : Rp K F y v)
    (no : ¬ Own (wipe σ vs) (wipeE vs r6) D) : BlkS K B F (upd H D (.lst (acc ++ [y]))) σ vs r6 D (ads ++ [v]) := by
  have sw := st_wipe s vs
  rw [hw] at sw
  exact ⟨st_upd sw nD no, nD, no, _, upd_same, hr.append (.cons hv .nil)⟩
section
variable {X : Cx} {B : Bs} {e a b c tg iter : Expr} {pos : Pos} {f g h : Env → Res TV}
theorem PTs.imp {ifs : List Expr} {t t' : TT} (h : PTs X ifs t) (w : ∀ σ H Q, t' σ H Q → t σ H Q) : PTs X ifs t' := ⟨fun pins s σ H Q I q => h.run pins s σ H Q I (w σ H Q q)⟩
theorem rt_no : PTs X [] (RdC X.K B fun r => .ok true r) := PTs.imp pts_nil fun σ H Q ⟨F, r, s, t, r', e, k⟩ => by
  cases e
  exact k F H (Post.refl s)
/-- the turn of a comprehension, behind the target's store and the tests: one item or none -/
theorem item_turn {K : Fg} {B : Bs} {σ : L2.St} {vs : List Nat} {D : Addr} {t : IT} {gt : Env → Res Bool} {ge : Env → Res TV} (hsl : ∀ i ∈ slotsT t, i ∈ vs) :
    TurnOk K B σ vs D (fun x r2 => (asn t (.d x) (wipeE vs r2)).bind fun _ r3 => (gt r3).bind fun ok r4 => match ok with
      | true => (ge r4).bind fun y r5 => (solidR r5 y).bind fun v r6 => .ok [v] r6
      | false => .ok [] r4)
     (fun x H Nx => RdG K B t x (wipe σ vs) H fun σ2 H2 => wipe σ2 vs = wipe σ vs ∧ RdC K B gt σ2 H2 fun b H3 =>
        if b = true then RdE K B ge σ2 H3 fun y H4 => ∃ acc, H4 D = some (.lst acc) ∧ acc.length < sizeLine ∧ Nx (upd H4 D (.lst (acc ++ [y]))) else Nx H3) := by
  intro F H x d r r' ys ads Nx b0 hv ef hl k
  obtain ⟨_, r3, e3, ef⟩ := bind_inv ef
  obtain ⟨ok, r4, e4, ef⟩ := bind_inv ef
  refine ⟨F, wipeE vs r, d, b0.st, hv, r3, e3, fun σ2 pa => ?_⟩
  have hw : wipe σ2 vs = wipe σ vs := wipe_eq (by rw [pa.len, wipe_length]) fun j hj => (pa.oth j fun z => hj (hsl j z)).1
  refine ⟨hw, F, r3, pa.st, ok, r4, e4, fun F4 H4 p4 => ?_⟩
  obtain ⟨acc, hD, hr⟩ := b0.acc
  have no3 : ¬ Own σ2 r3 D := fun z => b0.no (pa.own D z)
  obtain ⟨hD4, nD4⟩ := blk_keep p4.mv hD b0.nD no3
  have no4 : ¬ Own σ2 r4 D := fun z => no3 (p4.own D z)
  have m0 : Mv (Own (wipe σ vs) (wipeE vs r)) (Own σ2 r3) F H F H := Mv.less pa.own
  have hlen : ∀ q : Env, q.length = r4.length → True := fun _ _ => trivial
  cases ok with
  | true =>
    rw [if_pos rfl]
    obtain ⟨y, r5, e5, ef⟩ := bind_inv ef
    obtain ⟨v, r6, e6, ef⟩ := bind_inv ef
    cases ef
    refine ⟨F4, r4, p4.st, y, r5, e5, fun yv F5 H5 p5 t5 => ?_⟩
    obtain ⟨F6, p6, h6, _⟩ := solid_post p4.st p5 t5 (solidR_ok e6)
    obtain ⟨hD6, nD6⟩ := blk_keep p6.mv hD4 nD4 no4
    have mm : Mv (Own (wipe σ vs) (wipeE vs r)) (Own (wipe σ vs) (wipeE vs r')) F H F6 H5 := by
      refine ((m0.trans p4.mv).trans p6.mv).trans (Mv.less fun a z => ?_)
      rw [← hw] at z
      exact own_wipe z
    have no6 : ¬ Own (wipe σ vs) (wipeE vs r') D := fun z => b0.no (mm.own D z)
    have hr6 : RpL K F6 acc ads := hr.mono mm.mono
    refine ⟨acc, hD6, ?_, ?_⟩
    · rw [hr6.length, ← szl]
      have hz : (ads ++ [v]).length ≤ SZ := hl
      rw [List.length_append, List.length_cons, List.length_nil] at hz
      exact hz
    · refine k F6 _ (put_item p6.st hw hD6 nD6 hr6 h6 no6) (mm.withD.trans (Mv.put hD6)) mm.own
  | false =>
    rw [if_neg (by decide)]
    cases ef
    have mm : Mv (Own (wipe σ vs) (wipeE vs r)) (Own (wipe σ vs) (wipeE vs r')) F H F4 H4 := by
      refine (m0.trans p4.mv).trans (Mv.less fun a z => ?_)
      rw [← hw] at z
      exact own_wipe z
    have sw := st_wipe p4.st vs
    rw [hw] at sw
    refine k F4 H4 ⟨sw, nD4, fun z => b0.no (mm.own D z), acc, hD4, by rw [List.append_nil]; exact hr.mono mm.mono⟩ mm.withD mm.own
/-- behind the loop: the list is the comprehension's value -/
theorem comp_end {K : Fg} {B : Bs} {F H F1 H1 F2 H2 : Hp} {σ : L2.St} {vs : List Nat} {r r1 r2 : Env} {D : Addr} {ys : List Ev.D} (p1 : Post K B σ r F H r1 F1 H1) (hD : H1 D = none) (b : BlkS K B F2 H2 σ vs r2 D ys) (m : Mv (OD σ vs r1 D) (OD σ vs r2 D) F1 (upd H1 D (.lst [])) F2 H2)
    (ow : ∀ a, Own (wipe σ vs) (wipeE vs r2) a → Own (wipe σ vs) (wipeE vs r1) a) : Post K B σ r F H (backE r1 vs r2) F2 H2 ∧ TvR K H σ F2 H2 (.f (.list ys)) (.ref D) := by
  have mm : Mv (Own (wipe σ vs) (wipeE vs r1)) (Own (wipe σ vs) (wipeE vs r2)) F1 H1 F2 H2 := by
    refine ⟨m.mono, fun a o h n => ?_, fun a h => ?_, fun a h => ?_, ow⟩
    · have ne : a ≠ D := ne_of_none h hD
      refine m.frame a o (by rw [upd_ne ne]; exact h) fun z => z.elim n ne
    · refine m.dom a ?_
      by_cases ne : a = D
      · subst ne; rw [upd_same]; simp
      · rw [upd_ne ne]; exact h
    · rcases m.fr a h with w | w | w
      · exact .inl w
      · by_cases ne : a = D
        · subst ne; exact .inr (.inl hD)
        · rw [upd_ne ne] at w; exact .inr (.inl w)
      · rcases w with w | w
        · exact .inr (.inr w)
        · subst w; exact absurd b.nD h
  obtain ⟨s2, m2⟩ := unwipe p1.st b.st mm
  obtain ⟨acc, h1, h2⟩ := b.acc
  refine ⟨p1.trans (m2.post s2), D, _, rfl, h1, b.nD, ⟨acc, rfl, h2⟩, ?_⟩
  exact Classical.byContradiction fun n => p1.dom D n hD
theorem comp_start {K : Fg} {B : Bs} {F1 H1 : Hp} {σ : L2.St} {vs : List Nat} {r1 : Env} {D : Addr} (s : StR K B F1 H1 σ r1) (hD : H1 D = none) : BlkS K B F1 (upd H1 D (.lst [])) σ vs r1 D [] := by
  have fD : F1 D = none := by
    cases z : F1 D with
    | none => rfl
    | some u => rw [s.sub _ _ z] at hD; cases hD
  have no : ¬ Own (wipe σ vs) (wipeE vs r1) D := fun z => by
    obtain ⟨o, e, _⟩ := s.ownH (own_wipe z)
    rw [hD] at e; cases e
  exact ⟨st_upd (st_wipe s vs) fD no, fD, no, [], upd_same, .nil⟩
theorem rd_cm1 {elt : Expr} {ifs : List Expr} {scope : Scope} {own : List (Str × Nat)} {t : IT} {gi : Env → Res (List D)} {gt : Env → Res Bool} {ge : Env → Res TV} (hc : X.calm = true) (hN : X.N.Nodup) (hi : PI X tg iter (RdI X.K B gi)) (ok : BlkOk X.N X.env.scope scope own)
    (hg : ∀ (s : Shared) (H : Hp) (C : Addr) (cl : List (Str × Addr)) (fp : List Addr), PG (X.blk s H scope (compEnvC scope cl C X.env) fp) tg (RdG X.K B t)) (ht : ∀ (s : Shared) (H : Hp) (C : Addr) (cl : List (Str × Addr)) (fp : List Addr), PTs (X.blk s H scope (compEnvC scope cl C X.env) fp) ifs (RdC X.K B gt))
    (he : ∀ (s : Shared) (H : Hp) (C : Addr) (cl : List (Str × Addr)) (fp : List Addr), PE (X.blk s H scope (compEnvC scope cl C X.env) fp) elt (RdE X.K B ge)) (hs : ∀ x, foldedSetIterable iter X.env x = pure x) (hsl : ∀ i ∈ slotsT t, i ∈ own.map (·.2)) :
    (∀ σ H Q, RdE X.K B (fun r => (gi r).bind fun xs r1 =>
      match compL (fun x r2 => (asn t (.d x) (wipeE (own.map (·.2)) r2)).bind fun _ r3 =>
          (gt r3).bind fun ok r4 => match ok with
            | true => (ge r4).bind fun y r5 => (solidR r5 y).bind fun v r6 => .ok [v] r6
            | false => .ok [] r4) xs r1 with
      | .ok ys r2 => if ys.length ≤ SZ then .ok (.f (.list ys)) (backE r1 (own.map (·.2)) r2) else .stuck
      | _ => .stuck) σ H Q → tLc (RdI X.K B gi) (RdG X.K B t) (RdC X.K B gt) (RdE X.K B ge) (own.map (·.2)) σ H Q) := fun σ H Q ⟨F, r, s, tv, r', e, k⟩ => by
  obtain ⟨xs, r1, e1, e⟩ := bind_inv e
  split at e
  · rename_i ys r2 ec
    split at e
    · rename_i wl
      cases e
      refine ⟨F, r, s, xs, r1, e1, fun J F1 H1 p1 wk D hD => ?_⟩
      refine loop_gen (item_turn (σ := σ) (D := D) hsl) wk (Sub.refl _) (comp_start p1.st hD) ec (by simpa using wl) fun F2 H2 b2 mv ow => ?_
      obtain ⟨p, tv⟩ := comp_end p1 hD (by simpa using b2) mv ow
      exact k _ F2 H2 p tv
    · cases e
  · cases e
end
end Ev

set_option linter.all false
set_option maxHeartbeats 4000000
namespace Ev
open PySem PySem.Spec PyProof.Rows L2
theorem wipe_wipe {σ : L2.St} {vs ws : List Nat} (h : ∀ i ∈ ws, i ∈ vs) : wipe (wipe σ ws) vs = wipe σ vs :=
  wipe_eq (wipe_length _ _) fun j hj => by rw [wipe_get, if_neg fun z => hj (h j z), wipe_get, if_neg hj]
theorem wipeE_wipe {r : Env} {vs ws : List Nat} (h : ∀ i ∈ ws, i ∈ vs) : wipeE vs (wipeE ws r) = wipeE vs r :=
  wipeE_eq (wipeE_len _ _) fun j hj => by rw [wipeE_get, if_neg fun z => hj (h j z), wipeE_get, if_neg hj]
abbrev innerG (t2 : IT) (vs1 : List Nat) (gt2 : Env → Res Bool) (ge : Env → Res TV) : D → Env → Res (List D) := fun z r6 => (asn t2 (.d z) (wipeE vs1 r6)).bind fun _ r7 =>
                (gt2 r7).bind fun ok2 r8 => match ok2 with
                  | true => (ge r8).bind fun y r9 => (solidR r9 y).bind fun v r10 => .ok [v] r10
                  | false => .ok [] r8
theorem outer_turn {K : Fg} {B : Bs} {σ : L2.St} {vs vs1 : List Nat} {D : Addr} {t t2 : IT} {gt gt2 : Env → Res Bool} {ge : Env → Res TV} {gi2 : Env → Res (List Ev.D)} (hsl : ∀ i ∈ slotsT t, i ∈ vs) (hsl2 : ∀ i ∈ slotsT t2, i ∈ vs1) (hv : ∀ i ∈ vs1, i ∈ vs) :
    TurnOk K B σ vs D (fun x r2 => (asn t (.d x) (wipeE vs r2)).bind fun _ r3 => (gt r3).bind fun ok r4 => match ok with
      | true => (gi2 r4).bind fun zs r5 => compL (innerG t2 vs1 gt2 ge) zs r5
      | false => .ok [] r4)
     (fun x H Nx => RdG K B t x (wipe σ vs) H fun σ2 H2 => wipe σ2 vs = wipe σ vs ∧ RdC K B gt σ2 H2 fun b H3 =>
        if b = true then RdI K B gi2 σ2 H3 fun J1 H4 => ∃ W1 : Nat → Nat → Hp → Prop, (∃ m, W1 0 m H4) ∧ ∀ j k H, W1 j k H →
      (J1.stop j H ∧ Nx H) ∨ (J1.go j H ∧ ∃ Nx1 : Hp → Prop, (∀ H', Nx1 H' → ∃ k', k' < k ∧ W1 (j + 1) k' H') ∧ ∀ x H', J1.yld j H x H' → RdG K B t2 x (wipe σ2 vs1) H' fun σ3 H5 => wipe σ3 vs1 = wipe σ2 vs1 ∧ RdC K B gt2 σ3 H5 fun b H6 =>
        if b = true then RdE K B ge σ3 H6 fun y H7 => ∃ acc, H7 D = some (.lst acc) ∧ acc.length < sizeLine ∧ Nx1 (upd H7 D (.lst (acc ++ [y]))) else Nx1 H6)
        else Nx H3) := by
  intro F H x d r r' ys ads Nx b0 hv1 ef hl k
  obtain ⟨_, r3, e3, ef⟩ := bind_inv ef
  obtain ⟨ok, r4, e4, ef⟩ := bind_inv ef
  refine ⟨F, wipeE vs r, d, b0.st, hv1, r3, e3, fun σ2 pa => ?_⟩
  have hw : wipe σ2 vs = wipe σ vs := wipe_eq (by rw [pa.len, wipe_length]) fun j hj => (pa.oth j fun z => hj (hsl j z)).1
  refine ⟨hw, F, r3, pa.st, ok, r4, e4, fun F4 H4 p4 => ?_⟩
  obtain ⟨acc, hD, hr⟩ := b0.acc
  have no3 : ¬ Own σ2 r3 D := fun z => b0.no (pa.own D z)
  obtain ⟨hD4, nD4⟩ := blk_keep p4.mv hD b0.nD no3
  have no4 : ¬ Own σ2 r4 D := fun z => no3 (p4.own D z)
  have m0 : Mv (Own (wipe σ vs) (wipeE vs r)) (Own σ2 r3) F H F H := Mv.less pa.own
  cases ok with
  | true =>
    rw [if_pos rfl]
    obtain ⟨zs, r5, e5, ef⟩ := bind_inv ef
    refine ⟨F4, r4, p4.st, zs, r5, e5, fun J1 F5 H5 p5 wk => ?_⟩
    obtain ⟨hD5, nD5⟩ := blk_keep p5.mv hD4 nD4 no4
    have no5 : ¬ Own σ2 r5 D := fun z => no4 (p5.own D z)
    have m5 : Mv (Own (wipe σ vs) (wipeE vs r)) (Own σ2 r5) F H F5 H5 := (m0.trans p4.mv).trans p5.mv
    have b5 : BlkS K B F5 H5 σ2 vs1 r5 D ads := ⟨st_wipe p5.st vs1, nD5, fun z => no5 (own_wipe z), acc, hD5, hr.mono m5.mono⟩
    refine loop_gen (item_turn (σ := σ2) (vs := vs1) (D := D) hsl2) wk (Sub.refl _) b5 ef hl fun F6 H6 b6 mv ow => ?_
    have sw := st_wipe b6.st vs
    rw [wipe_wipe hv, wipeE_wipe hv, hw] at sw
    have o6 : ∀ a, Own (wipe σ vs) (wipeE vs r') a → Own (wipe σ2 vs1) (wipeE vs1 r') a := fun a z => by
      rw [← hw, ← wipe_wipe (σ := σ2) hv, ← wipeE_wipe (r := r') hv] at z
      exact own_wipe z
    have o65 : ∀ a, Own (wipe σ vs) (wipeE vs r') a → Own σ2 r5 a := fun a z => own_wipe (ow a (o6 a z))
    have oo : ∀ a, Own (wipe σ vs) (wipeE vs r') a → Own (wipe σ vs) (wipeE vs r) a := fun a z => m5.own a (o65 a z)
    refine k F6 H6 ⟨sw, b6.nD, fun z => b0.no (oo D z), b6.acc⟩ ?_ oo
    refine m5.withD.trans ((Mv.less fun a z => ?_).trans (mv.trans (Mv.less fun a z => ?_)))
    · exact z.elim (fun z => .inl (own_wipe z)) .inr
    · exact z.elim (fun z => .inl (o6 a z)) .inr
  | false =>
    rw [if_neg (by decide)]
    cases ef
    have mm : Mv (Own (wipe σ vs) (wipeE vs r)) (Own (wipe σ vs) (wipeE vs r')) F H F4 H4 := by
      refine (m0.trans p4.mv).trans (Mv.less fun a z => ?_)
      rw [← hw] at z
      exact own_wipe z
    have sw := st_wipe p4.st vs
    rw [hw] at sw
    refine k F4 H4 ⟨sw, nD4, fun z => b0.no (mm.own D z), acc, hD4, by rw [List.append_nil]; exact hr.mono mm.mono⟩ mm.withD mm.own
section
variable {X : Cx} {B : Bs} {tg iter : Expr}
theorem rd_cm2 {t t2 : IT} {vs vs1 : List Nat} {gi gi2 : Env → Res (List D)} {gt gt2 : Env → Res Bool} {ge : Env → Res TV} (hsl : ∀ i ∈ slotsT t, i ∈ vs) (hsl2 : ∀ i ∈ slotsT t2, i ∈ vs1) (hv : ∀ i ∈ vs1, i ∈ vs) :
    (∀ σ H Q, RdE X.K B (fun r => (gi r).bind fun xs r1 =>
      match compL (fun x r2 => (asn t (.d x) (wipeE vs r2)).bind fun _ r3 =>
          (gt r3).bind fun ok r4 => match ok with
            | true => (gi2 r4).bind fun zs r5 => compL (innerG t2 vs1 gt2 ge) zs r5
            | false => .ok [] r4) xs r1 with
      | .ok ys r2 => if ys.length ≤ SZ then .ok (.f (.list ys)) (backE r1 vs r2) else .stuck
      | _ => .stuck) σ H Q → tLc2 (RdI X.K B gi) (RdG X.K B t) (RdC X.K B gt) (RdI X.K B gi2) (RdG X.K B t2) (RdC X.K B gt2) (RdE X.K B ge) vs vs1 σ H Q) := fun σ H Q ⟨F, r, s, tv, r', e, k⟩ => by
  obtain ⟨xs, r1, e1, e⟩ := bind_inv e
  split at e
  · rename_i ys r2 ec
    split at e
    · rename_i wl
      cases e
      refine ⟨F, r, s, xs, r1, e1, fun J F1 H1 p1 wk D hD => ?_⟩
      refine loop_gen (outer_turn (σ := σ) (D := D) hsl hsl2 hv) wk (Sub.refl _) (comp_start p1.st hD) ec (by simpa using wl) fun F2 H2 b2 mv ow => ?_
      obtain ⟨p, tv⟩ := comp_end p1 hD (by simpa using b2) mv ow
      exact k _ F2 H2 p tv
    · cases e
  · cases e
end
end Ev

set_option linter.all false
set_option maxHeartbeats 2000000
namespace Ev
open PySem PySem.Spec PyProof.Rows L2
theorem keyIs_D (k k' : Key) : Ev.keyIs (keyD k) (keyD k') = decide (k = k') := by
  cases k <;> cases k' <;> simp [keyD, Ev.keyIs] <;> rfl
theorem RpK.look {K : Fg} {F : Hp} (k : Key) : ∀ {kvs : List (Key × V)} {ps : List (D × D)}, RpK K F kvs ps → (lookD ps (keyD k) = none ∧ valV kvs k = none) ∨ ∃ d v, lookD ps (keyD k) = some d ∧ valV kvs k = some v ∧ Rp K F v d
  | _, _, .nil => .inl ⟨rfl, rfl⟩
  | _, _, .cons (k := k') (v := v) (d := d) (kvs := kvs) (ps := ps) h r => by
    by_cases e : k' = k
    · subst e
      refine .inr ⟨d, v, ?_, valV_pos rfl, h⟩
      show (if Ev.keyIs (keyD k') (keyD k') = true then some d else _) = _
      rw [keyIs_D, decide_eq_true rfl, if_pos rfl]
    · have e1 : lookD ((keyD k', d) :: ps) (keyD k) = lookD ps (keyD k) := by
        show (if Ev.keyIs (keyD k') (keyD k) = true then some d else _) = _
        rw [keyIs_D, decide_eq_false e, if_neg (by decide)]
      rw [e1, valV_neg (p := (k', v)) e]
      exact RpK.look k r
theorem RpK.any {K : Fg} {F : Hp} (k : Key) : ∀ {kvs : List (Key × V)} {ps : List (D × D)}, RpK K F kvs ps → (ps.any fun p => Ev.keyIs p.1 (keyD k)) = kvs.any fun kv => decide (kv.1 = k)
  | _, _, .nil => rfl
  | _, _, .cons h r => by
    rw [List.any_cons, List.any_cons, RpK.any k r, keyIs_D]
theorem RpK.app {K : Fg} {F : Hp} : ∀ {kvs lvs : List (Key × V)} {ps qs : List (D × D)}, RpK K F kvs ps → RpK K F lvs qs → RpK K F (kvs ++ lvs) (ps ++ qs)
  | _, _, _, _, .nil, r => r
  | _, _, _, _, .cons h r, q => .cons h (RpK.app r q)
theorem RpK.repl {K : Fg} {F : Hp} (k : Key) {v : V} {d : D} (hv : Rp K F v d) : ∀ {kvs : List (Key × V)} {ps : List (D × D)}, RpK K F kvs ps →
    RpK K F (kvs.map (fun kv => if kv.1 = k then (kv.1, v) else kv)) (ps.map (fun p => if Ev.keyIs p.1 (keyD k) = true then (p.1, d) else p))
  | _, _, .nil => .nil
  | _, _, .cons (k := k') h r => by
    have ih := RpK.repl k hv r
    rw [List.map_cons, List.map_cons]
    by_cases e : k' = k
    · subst e
      rw [if_pos rfl, keyIs_D, decide_eq_true rfl, if_pos rfl]
      exact .cons hv ih
    · rw [if_neg e, keyIs_D, decide_eq_false e, if_neg (by decide)]
      exact .cons h ih
theorem RpK.put {K : Fg} {F : Hp} {kvs : List (Key × V)} {ps : List (D × D)} (r : RpK K F kvs ps) (k : Key) {v : V} {d : D} (hv : Rp K F v d) : RpK K F (putK kvs k v) (putD ps (keyD k) d) := by
  unfold putK putD
  rw [r.any k]
  split
  · exact r.repl k hv
  · exact r.app (.cons hv .nil)
theorem key_of_isKey {d : D} (h : isKey d = true) : ∃ k : Key, d = keyD k := by
  cases d <;> first | (exact ⟨.inl _, rfl⟩) | (exact ⟨.inr _, rfl⟩) | (simp [isKey] at h)
theorem rq_key {K : Fg} {F H : Hp} {y : V} {k : Key} (h : Rq K F H y (keyD k)) : y = kV k := by
  cases k with
  | inl i => exact h.int
  | inr x => exact h.str
theorem RpT.nokey {K : Fg} {F : Hp} {kvs : List (List Key × V)} {ps : List (D × D)} (h : RpT K F kvs ps) (hk : ps.all (fun p => isKey p.1) = true) (hn : ps ≠ []) : False := by
  cases h with
  | nil => exact hn rfl
  | cons h r => simp [keyTD, isKey] at hk
theorem Rq.dic {K : Fg} {F H : Hp} {x : V} {ps : List (D × D)} (s : Sub F H) (h : Rq K F H x (.dict ps)) (hk : ps.all (fun p => isKey p.1) = true) (hn : ps ≠ []) : ∃ a kvs, x = .ref a ∧ H a = some (.dK kvs) ∧ RpK K F kvs ps := by
  rcases h with h | ⟨a, o, e, e1, e2⟩
  · cases h with
    | dic h1 h2 => exact ⟨_, _, rfl, s _ _ h1, h2⟩
    | dit h1 h2 => exact (h2.nokey hk hn).elim
    | scr h1 h2 => simp [isKey] at hk
  · rcases e2 with ⟨kvs, e3, h2⟩ | ⟨kvs, e3, h2⟩
    · subst e3
      exact ⟨_, _, e, e1, h2⟩
    · exact (h2.nokey hk hn).elim
theorem isD_of {K : Fg} {F H : Hp} {x : V} {d : D} (s : Sub F H) (h : Rq K F H x d) (hd : isDict d = true) : ∃ a, x = .ref a ∧ IsD H a := by
  rcases h with h | ⟨a, o, e, e1, e2⟩
  · cases h <;> first
      | (rename_i h1 h2; exact ⟨_, rfl, .inl ⟨_, .inl (s _ _ h1)⟩⟩)
      | (rename_i h1 h2; exact ⟨_, rfl, .inr ⟨_, .inl (s _ _ h1)⟩⟩)
      | (simp [isDict] at hd)
  · cases d with
    | dict ps =>
      rcases e2 with ⟨kvs, e3, h2⟩ | ⟨kvs, e3, h2⟩
      · subst e3; exact ⟨a, e, .inl ⟨_, .inl e1⟩⟩
      · subst e3; exact ⟨a, e, .inr ⟨_, .inl e1⟩⟩
    | list l => simp [isDict] at hd
    | none => exact e2.elim
    | bool b => exact e2.elim
    | int i => exact e2.elim
    | str s => exact e2.elim
    | tuple l => exact e2.elim
theorem dictR_inv {r r' : Env} {t : TV} (h : dictR r t = .ok () r') : ∃ u, deref r t = some u ∧ isDict u = true ∧ r = r' := by
  unfold dictR at h
  split at h
  · rename_i u hu
    split at h
    · rename_i w
      cases h
      exact ⟨u, hu, w, rfl⟩
    · cases h
  · cases h
/-- what d.get finds -/
theorem dget_of {K : Fg} {F H : Hp} {x y : V} {a : Addr} {u v : D} {t : Option D} (s : Sub F H) (hx : Rq K F H x u) (ex : x = .ref a) (hy : Rq K F H y v) (e : getD1 u v = some t) :
    ∃ o, DGet H a y o ∧ ((t = none ∧ o = none) ∨ ∃ d w, t = some d ∧ o = some w ∧ Rp K F w d) := by
  unfold getD1 at e
  split at e
  · rename_i kd ps
    split at e
    · rename_i w
      rw [Bool.and_eq_true, Bool.and_eq_true] at w
      cases e
      obtain ⟨k, rfl⟩ := key_of_isKey w.1.1
      have hn : ps ≠ [] := fun z => by subst z; simp at w
      obtain ⟨a', kvs, e1, e2, e3⟩ := hx.dic s w.1.2 hn
      rw [ex] at e1
      cases e1
      have ey := rq_key hy
      subst ey
      refine ⟨valV kvs k, DGet.k e2, ?_⟩
      rcases e3.look k with ⟨h1, h2⟩ | ⟨d, w', h1, h2, h3⟩
      · exact .inl ⟨h1, h2⟩
      · exact .inr ⟨d, w', h1, h2, h3⟩
    · cases e
  · cases e
def baseB : Expr → Bool
  | .Call _ _ _ _ => false
  | _ => true
section
variable {X : Cx} {B : Bs} {o e k d : Expr} {apos cpos pos : Pos} {f g h : Env → Res TV}
theorem base_ok {m : Str} {env : PySem.Env} (hb : baseB o = true) : attributeBase o m env (eval o env) = eval o env := by
  cases o <;> first | rfl | (simp [baseB] at hb)
theorem back_one {env : PySem.Env} (hp : plainE e = true) : backTo cpos (starEach [e] env) = [(false, eval e env)] := by
  rw [star_cons hp]; rfl
theorem back_two {env : PySem.Env} (hp : plainE e = true) (hp2 : plainE d = true) : backTo cpos (starEach [e, d] env) = [(false, eval e env), (false, eval d env)] := by
  rw [star_cons hp, star_cons hp2]; rfl
theorem m1_ok {m : Str} (hb : baseB o = true) (hp : plainE e = true) (hl : (apos.endLine == cpos.line) = true) : M1 X o m apos e cpos :=
  ⟨base_ok hb, by rw [back_one hp]; rfl, hl, back_one hp⟩
theorem m2_ok {m : Str} (hb : baseB o = true) (hp : plainE e = true) (hp2 : plainE d = true) (hl : (apos.endLine == cpos.line) = true) : M2 X o m apos e d cpos :=
  ⟨base_ok hb, by rw [back_two hp hp2]; rfl, hl, back_two hp hp2⟩
theorem rd_mg1 (hu : X.A.units + 1 < cLine) (hb : baseB o = true) (hp : plainE k = true) (hl : (apos.endLine == cpos.line) = true) (ho : PE X o (RdE X.K B f)) (hk : PE X k (RdE X.K B g)) :
    PE X (.Call (.Attribute o "get" apos) [k] [] cpos) (RdE X.K B fun r => (f r).bind fun x r1 => (dictR r1 x).bind fun _ r1 => (g r1).bind fun y r2 =>
      match deref r2 x, deref r2 y with
      | some u, some v => .of ((getD1 u v).map fun t => .d (t.getD .none)) r2
      | _, _ => .stuck) := by
  refine PE.imp (pe_dget1 hu ho hk (m1_ok hb hp hl)) fun σ H Q ⟨F, r, s, t, r', e, c⟩ => ?_
  obtain ⟨x, r1, e1, ea⟩ := bind_inv e
  obtain ⟨_, r1', e0, eb⟩ := bind_inv ea
  obtain ⟨u0, z0, w0, rfl⟩ := dictR_inv e0
  clear e ea
  obtain ⟨y, r2, e2, e⟩ := bind_inv eb
  refine ⟨F, r, s, x, r1, e1, fun xv F1 H1 p1 t1 => ?_⟩
  obtain ⟨a, ea, da⟩ := isD_of p1.st.sub (deref_rq p1.st t1 z0) w0
  refine ⟨a, ea, da, F1, r1, p1.st, y, r2, e2, fun yv F2 H2 p2 t2 => ?_⟩
  have t1' := t1.keep p2 (p1.ne s)
  split at e
  · rename_i u v z1 z2
    obtain ⟨e3, rfl⟩ := of_inv e
    rw [Option.map_eq_some_iff] at e3
    obtain ⟨tt, e3, rfl⟩ := e3
    obtain ⟨ov, g1, g2⟩ := dget_of p2.st.sub (deref_rq p2.st t1' z1) ea (deref_rq p2.st t2 z2) e3
    refine ⟨ov, g1, c _ F2 H2 (p1.trans p2) ?_⟩
    rcases g2 with ⟨rfl, rfl⟩ | ⟨dd, w, rfl, rfl, hw⟩
    · exact .non
    · exact hw
  · cases e
theorem rd_mg2 (hu : X.A.units + 1 < cLine) (hb : baseB o = true) (hp : plainE k = true) (hp2 : plainE d = true) (hl : (apos.endLine == cpos.line) = true) (ho : PE X o (RdE X.K B f)) (hk : PE X k (RdE X.K B g)) (hd : PE X d (RdE X.K B h)) :
    PE X (.Call (.Attribute o "get" apos) [k, d] [] cpos) (RdE X.K B fun r => (f r).bind fun x r1 => (dictR r1 x).bind fun _ r1 => (g r1).bind fun y r2 => (h r2).bind fun z r3 => (solidR r3 z).bind fun w r4 =>
      match deref r4 x, deref r4 y with
      | some u, some v => .of ((getD1 u v).map fun t => .d (t.getD w)) r4
      | _, _ => .stuck) := by
  refine PE.imp (pe_dget2 hu ho hk hd (m2_ok hb hp hp2 hl)) fun σ H Q ⟨F, r, s, t, r', e, c⟩ => ?_
  obtain ⟨x, r1, e1, ea⟩ := bind_inv e
  obtain ⟨_, r1', e0, eb⟩ := bind_inv ea
  obtain ⟨u0, z0, w0, rfl⟩ := dictR_inv e0
  clear e ea
  obtain ⟨y, r2, e2, ec⟩ := bind_inv eb
  obtain ⟨z, r3, e3, ed⟩ := bind_inv ec
  obtain ⟨w, r4, e4, e⟩ := bind_inv ed
  refine ⟨F, r, s, x, r1, e1, fun xv F1 H1 p1 t1 => ?_⟩
  obtain ⟨a, ea, da⟩ := isD_of p1.st.sub (deref_rq p1.st t1 z0) w0
  refine ⟨a, ea, da, F1, r1, p1.st, y, r2, e2, fun yv F2 H2 p2 t2 => ⟨F2, r2, p2.st, z, r3, e3, fun zv F3 H3 p3 t3 => ?_⟩⟩
  obtain ⟨F4, p4, h4, _⟩ := solid_post p2.st p3 t3 (solidR_ok e4)
  have t1' := (t1.keep p2 (p1.ne s)).keep p4 fun a q => p1.ne s a (p2.own a q)
  have t2' := t2.keep p4 (p2.ne p1.st)
  split at e
  · rename_i u v z1 z2
    obtain ⟨e5, rfl⟩ := of_inv e
    rw [Option.map_eq_some_iff] at e5
    obtain ⟨tt, e5, rfl⟩ := e5
    obtain ⟨ov, g1, g2⟩ := dget_of p4.st.sub (deref_rq p4.st t1' z1) ea (deref_rq p4.st t2' z2) e5
    refine ⟨ov, g1, c _ F4 H3 ((p1.trans p2).trans p4) ?_⟩
    rcases g2 with ⟨rfl, rfl⟩ | ⟨dd, w', rfl, rfl, hw⟩
    · exact h4
    · exact hw
  · cases e
end
end Ev

set_option linter.all false
set_option maxHeartbeats 2000000
namespace Ev
open PySem PySem.Spec PyProof.Rows L2
def keyC : Const → Key
  | .int i => .inl i
  | .str x => .inr x
  | _ => .inl 0
def keyCB : Const → Bool
  | .int _ => true
  | .str _ => true
  | _ => false
inductive PV (X : Cx) (B : Bs) (call : Nat → List Sl → CR) : List (Option Expr) → List Expr → List Const → IA → List (TE × TE) → Prop
  | nil : PV X B call [] [] [] .nil []
  | cons {k v : Expr} {ks : List (Option Expr)} {vs : List Expr} {c : Const} {cs : List Const} {a : IE} {l : IA} {trs : List (TE × TE)} : PE X k (tC (kV (keyC c))) → PE X v (RdE X.K B (ev call a).1) → PV X B call ks vs cs l trs →
      PV X B call (some k :: ks) (v :: vs) (c :: cs) (.cons a l) ((tC (kV (keyC c)), RdE X.K B (ev call a).1) :: trs)
section
variable {X : Cx} {B : Bs} {call : Nat → List Sl → CR} {pos : Pos}
theorem PV.pps : ∀ {ks : List (Option Expr)} {vs : List Expr} {cs : List Const} {l : IA} {trs : List (TE × TE)}, PV X B call ks vs cs l trs → PPs X pos ks vs trs
  | _, _, _, _, _, .nil => pps_nil
  | _, _, _, _, _, .cons h1 h2 r => pps_cons h1 h2 r.pps
theorem PV.pairs : ∀ {ks : List (Option Expr)} {vs : List Expr} {cs : List Const} {l : IA} {trs : List (TE × TE)}, PV X B call ks vs cs l trs → ∀ {σ : L2.St} {H : Hp} {Q : List (V × V) → Hp → Prop},
    RdA X.K B (evA call l) σ H (fun xs H' => xs.length = cs.length → Q ((cs.zip xs).map fun p => (kV (keyC p.1), p.2)) H') → tPairs trs σ H Q
  | _, _, _, _, _, .nil, σ, H, Q, ⟨F, r, s, t, r', e, k⟩ => by
    cases (show Res.ok [] r = Res.ok t r' from e)
    exact k [] F H (Post.refl s) .nil rfl
  | _, _, _, _, _, .cons (c := c) (cs := cs) (l := l) h1 h2 rest, σ, H, Q, ⟨F, r, s, t, r', e, k⟩ => by
    obtain ⟨x, r1, e1, e⟩ := bind_inv e
    obtain ⟨v, r2, e2, e⟩ := bind_inv e
    obtain ⟨vs, r3, e3, e⟩ := bind_inv e
    cases e
    refine ⟨F, r, s, x, r1, e1, fun xv F1 H1 p1 t1 => ?_⟩
    obtain ⟨F2, p2, hv, m2⟩ := solid_post s p1 t1 (solidR_ok e2)
    refine rest.pairs ⟨F2, r2, p2.st, vs, r', e3, fun xs F3 H3 p3 h3 hl => ?_⟩
    exact k (xv :: xs) F3 H3 (p2.trans p3) (.cons (hv.mono p3.mono) h3) (by rw [List.length_cons, List.length_cons, hl])
theorem PV.len : ∀ {ks : List (Option Expr)} {vs : List Expr} {cs : List Const} {l : IA} {trs : List (TE × TE)}, PV X B call ks vs cs l trs → ks.length = vs.length ∧ ks.length = cs.length ∧ ks.all (·.isSome) = true
  | _, _, _, _, _, .nil => ⟨rfl, rfl, rfl⟩
  | _, _, _, _, _, .cons h1 h2 r => by
    obtain ⟨a, b, c⟩ := r.len
    exact ⟨by rw [List.length_cons, List.length_cons, a], by rw [List.length_cons, List.length_cons, b], by rw [List.all_cons, c]; rfl⟩
def dstep (ps : List (D × D)) (p : Const × D) : List (D × D) := match p.1 with
      | .int i => putD ps (.int i) p.2
      | .str x => putD ps (.str x) p.2
      | _ => ps
theorem disp_merge {K : Fg} {F : Hp} : ∀ {cs : List Const} {xs : List V} {ds : List D}, RpL K F xs ds → cs.length = xs.length → cs.all keyCB = true → ∀ {kvs : List (Key × V)} {ps : List (D × D)}, RpK K F kvs ps →
    RpK K F (mergeK kvs ((cs.zip xs).map fun p => (keyC p.1, p.2))) ((cs.zip ds).foldl dstep ps)
  | [], xs, ds, h, hl, hc, kvs, ps, r => by
    cases h with
    | nil => exact r
    | cons h1 h2 => simp at hl
  | c :: cs, xs, ds, h, hl, hc, kvs, ps, r => by
    rw [List.all_cons, Bool.and_eq_true] at hc
    cases h with
    | nil => simp at hl
    | @cons x xs d ds h1 h2 =>
      have hl' : cs.length = xs.length := by simpa using hl
      show RpK K F (mergeK (putK kvs (keyC c) x) _) ((cs.zip ds).foldl dstep (dstep ps (c, d)))
      have e : dstep ps (c, d) = putD ps (keyD (keyC c)) d := by
        cases c <;> first | rfl | (simp [keyCB] at hc)
      rw [e]
      exact disp_merge h2 hl' hc.2 (r.put (keyC c) h1)
theorem rd_dsp {ks : List (Option Expr)} {vs : List Expr} {cs : List Const} {l : IA} {trs : List (TE × TE)} (h : PV X B call ks vs cs l trs) :
    PE X (.Dict ks vs pos) (RdE X.K B fun r => (evA call l r).bind fun vs r1 => match dispD cs vs with
      | some ps => .ok (.f (.dict ps)) r1
      | none => .stuck) := by
  obtain ⟨l1, l2, l3⟩ := h.len
  by_cases h0 : ks = [] ∨ ¬ ks.length ≤ 15
  · refine ⟨fun pins s σ H Q I ⟨F, r, st, t, r', e, k⟩ => ?_⟩
    obtain ⟨ds, r1, e1, e⟩ := bind_inv e
    split at e
    · rename_i ps hd
      unfold dispD at hd
      split at hd
      · rename_i w
        rcases h0 with h0 | h0
        · subst h0
          exact absurd (List.eq_nil_of_length_eq_zero l2.symm) w.2.2.1
        · exact absurd (l2 ▸ w.2.1) h0
      · cases hd
    · cases e
  · rw [not_or, Classical.not_not] at h0
    refine PE.imp (pe_disp h.pps l3 l1 h0.1 h0.2) fun σ H Q ⟨F, r, st, t, r', e, k⟩ p hp => ?_
    obtain ⟨ds, r1, e1, e⟩ := bind_inv e
    have lp := laid (o := .dK []) st hp
    have fp : F p = none := by
      cases q : F p with
      | none => rfl
      | some u =>
        rw [st.sub _ _ q] at hp
        cases hp
    have no : ¬ Own σ r p := fun q => by
      obtain ⟨o, eo, _⟩ := st.ownH q
      rw [hp] at eo
      cases eo
    refine h.pairs ⟨F, r, lp.st, ds, r1, e1, fun xs F1 H1 p1 rl hlen => ?_⟩
    split at e
    · rename_i ps hd
      cases e
      have hp1 : H1 p = some (.dK []) := p1.frame p _ upd_same no
      have fp1 : F1 p = none := by
        cases q : F1 p with
        | none => rfl
        | some u =>
          rcases p1.fr p (by rw [q]; simp) with w | w | w
          · exact absurd fp w
          · rw [upd_same] at w; cases w
          · exact absurd w no
      have no1 : ¬ Own σ r' p := fun q => no (p1.own p q)
      unfold dispD at hd
      split at hd
      · rename_i w
        have ew : ps = (cs.zip ds).foldl dstep [] := (Option.some.inj hd).symm
        subst ew
        have hc : cs.all keyCB = true := w.2.2.2
        have hkl : (cs.zip xs).length ≤ 15 := by
          rw [List.length_zip]
          have := w.2.1
          omega
        have hl' : cs.length = xs.length := hlen.symm
        refine ⟨hp1, (cs.zip xs).map fun p => (keyC p.1, p.2), ?_, by rw [List.length_map]; exact hkl, ?_⟩
        · rw [List.map_map]; rfl
        · have pp := (lp.trans p1)
          have mm : Post X.K B σ r F H r' F1 (upd H1 p (.dK (mergeK [] ((cs.zip xs).map fun p => (keyC p.1, p.2))))) := by
            refine ⟨st_upd p1.st fp1 no1, pp.mono, fun a o ha hn => ?_, fun a ha => ?_, pp.fr, pp.own⟩
            · rw [upd_ne (ne_of_none ha hp)]
              exact pp.frame a o ha hn
            · by_cases z : a = p
              · subst z; rw [upd_same]; simp
              · rw [upd_ne z]; exact pp.dom a ha
          exact k _ F1 _ mm ⟨p, _, rfl, upd_same, fp1, .inl ⟨_, rfl, disp_merge rl hl' hc .nil⟩, hp⟩
      · cases hd
    · cases e
end
end Ev

set_option linter.all false
set_option maxHeartbeats 4000000
/-! A look at a text's tree beside the evaluator's. -/
namespace Ev
open PySem PySem.Spec PyProof.Rows L2
/-- what is known of the names: slots, defs, free built-ins, globals -/
structure Ck where
  N : List Str
  fl : List Str
  bs : List Str
  gl : List (Str × D)
mutual
def beqD : D → D → Bool
  | .none, .none => true
  | .bool a, .bool b => a == b
  | .int a, .int b => a == b
  | .str a, .str b => a == b
  | .tuple l, .tuple m => beqDs l m
  | .list l, .list m => beqDs l m
  | .dict l, .dict m => beqDp l m
  | _, _ => false
def beqDs : List D → List D → Bool
  | [], [] => true
  | a :: l, b :: m => beqD a b && beqDs l m
  | _, _ => false
def beqDp : List (D × D) → List (D × D) → Bool
  | [], [] => true
  | (a, x) :: l, (b, y) :: m => beqD a b && (beqD x y && beqDp l m)
  | _, _ => false
end
mutual
theorem beqD_ok : ∀ {a b : D}, beqD a b = true → a = b
  | .none, b, h => by cases b <;> first | rfl | (simp [beqD] at h)
  | .bool a, b, h => by cases b <;> simp [beqD] at h; subst h; rfl
  | .int a, b, h => by cases b <;> simp [beqD] at h; subst h; rfl
  | .str a, b, h => by cases b <;> simp [beqD] at h; subst h; rfl
  | .tuple l, b, h => by
    cases b <;> simp [beqD] at h
    rw [beqDs_ok h]
  | .list l, b, h => by
    cases b <;> simp [beqD] at h
    rw [beqDs_ok h]
  | .dict l, b, h => by
    cases b <;> simp [beqD] at h
    rw [beqDp_ok h]
theorem beqDs_ok : ∀ {a b : List D}, beqDs a b = true → a = b
  | [], b, h => by cases b <;> first | rfl | (simp [beqDs] at h)
  | a :: l, b, h => by
    cases b with
    | nil => simp [beqDs] at h
    | cons b m =>
      simp only [beqDs, Bool.and_eq_true] at h
      rw [beqD_ok h.1, beqDs_ok h.2]
theorem beqDp_ok : ∀ {a b : List (D × D)}, beqDp a b = true → a = b
  | [], b, h => by cases b <;> first | rfl | (simp [beqDp] at h)
  | (a, x) :: l, b, h => by
    cases b with
    | nil => simp [beqDp] at h
    | cons b m =>
      obtain ⟨b, y⟩ := b
      simp only [beqDp, Bool.and_eq_true] at h
      rw [beqD_ok h.1, beqD_ok h.2.1, beqDp_ok h.2.2]
end
def glIs (gl : List (Str × D)) (x : Str) (d : D) : Bool := match gl.lookup x with
  | some e => beqD e d
  | none => false
theorem glIs_ok {gl : List (Str × D)} {x : Str} {d : D} (h : glIs gl x d = true) : gl.lookup x = some d := by
  unfold glIs at h
  split at h
  · rename_i e he
    rw [he, beqD_ok h]
  · cases h
def visB (sc : Scope) (x : Str) : Bool := match sc.names.lookup x with
  | some .local => true
  | some .cell => true
  | some .free => true
  | _ => false
def locB (sc : Scope) (x : Str) : Bool := match sc.names.lookup x with
  | some .local => true
  | some .cell => true
  | _ => false
def isLoc (sc : Scope) (x : Str) : Bool := match sc.names.lookup x with
  | some .local => true
  | _ => false
def glB (sc : Scope) (x : Str) : Bool := match sc.names.lookup x with
  | some .globalImplicit => true
  | _ => false
def dbgB (x : Str) : Bool := !(x == ("__debug__" : Str)) && !(x == ("__classdict__" : Str))
def slotB (c : Ck) (i : Nat) (x : Str) : Bool := match c.N[i]? with
  | some y => y == x
  | none => false
def freeB (c : Ck) (sc : Scope) (x y : Str) : Bool := (x == y) && (c.bs.contains x && glB sc x)
def notSet : Expr → Bool
  | .Set _ _ _ => false
  | _ => true
def plainIxB : Expr → Bool
  | .Slice _ _ _ _ => false
  | _ => true
def cstEq : Const → Const → Bool
  | .none, .none => true
  | .bool a, .bool b => a == b
  | .int a, .int b => a == b
  | .str a, .str b => a == b
  | _, _ => false
def blkB (N : List Str) (sc scope : Scope) (own : List (Str × Nat)) : Bool :=
  decide (scope.kind = .function) && (scope.names.all (fun y => decide (scope.names.lookup y.1 = some y.2)) && (own.all (fun p => decide (N[p.2]? = some p.1)) &&
    (scope.names.all (fun y => !decide (y.2 = .free) || (decide (sc.names.lookup y.1 = some .cell) || decide (sc.names.lookup y.1 = some .free))) &&
    scope.names.all (fun y => !(decide (y.2 = .local) || decide (y.2 = .cell)) || ((own.map (·.1)).contains y.1 || !N.contains y.1)))))
mutual
def chG (c : Ck) (fnB : Str → Bool) (sc : Scope) : IT → Expr → Bool
  | .n i m, e => match e with
    | .Name x _ => !m && (slotB c i x && (locB sc x && (fnB x || isLoc sc x)))
    | _ => false
  | .t l, e => match e with
    | .Tuple es _ _ => es.all plainE && ((es.length == l.length) && chGs c fnB sc l es)
    | _ => false
def chGs (c : Ck) (fnB : Str → Bool) (sc : Scope) : List IT → List Expr → Bool
  | [], [] => true
  | t :: ts, e :: es => chG c fnB sc t e && chGs c fnB sc ts es
  | _, _ => false
end
abbrev cfn (scope : Scope) : Str → Bool := fun x => scope.names.lookup x == some .cell
mutual
def chE (c : Ck) : Scope → IE → Expr → Bool
  | sc, .cst d, e => match e with
    | .Constant d' _ _ => cstEq d d'
    | _ => false
  | sc, .var i, e => match e with
    | .Name x _ => slotB c i x && (visB sc x && dbgB x)
    | _ => false
  | sc, .glob y d, e => match e with
    | .Name x _ => (x == y) && (glB sc x && (dbgB x && glIs c.gl x d))
    | _ => false
  | sc, .bin o a b, e => match e with
    | .BinOp l op r _ => decide (op = opB o) && (chE c sc a l && chE c sc b r)
    | _ => false
  | sc, .neg a, e => match e with
    | .UnaryOp .USub x _ => chE c sc a x
    | _ => false
  | sc, .cmp o a b, e => match e with
    | .Compare l [op] [r] _ => decide (op = opC o) && (!behindInMarks (opC o) r && (chE c sc a l && chE c sc b r))
    | _ => false
  | sc, .chn o p a b d, e => match e with
    | .Compare l [op, op'] [r, q] _ => decide (op = opC o) && (decide (op' = opC p) && (!lastMarks [opC o, opC p] [r, q] && (chE c sc a l && (chE c sc b r && chE c sc d q))))
    | _ => false
  | sc, .not a, e => match e with
    | .UnaryOp .Not x _ => chE c sc a x
    | _ => false
  | sc, .and a b, e => match e with
    | .BoolOp .And (e1 :: rest) pos => chE c sc a e1 && (match rest with
      | [] => false
      | [e2] => chE c sc b e2
      | e2 :: e3 :: r => chE c sc b (.BoolOp .And (e2 :: e3 :: r) pos))
    | _ => false
  | sc, .or a b, e => match e with
    | .BoolOp .Or (e1 :: rest) pos => chE c sc a e1 && (match rest with
      | [] => false
      | [e2] => chE c sc b e2
      | e2 :: e3 :: r => chE c sc b (.BoolOp .Or (e2 :: e3 :: r) pos))
    | _ => false
  | sc, .ife t a b, e => match e with
    | .IfExp t' a' b' _ => chE c sc t t' && (chE c sc a a' && chE c sc b b')
    | _ => false
  | sc, .tup l, e => match e with
    | .Tuple es _ _ => chA c sc l es
    | _ => false
  | sc, .lst l, e => match e with
    | .List es _ => chA c sc l es
    | _ => false
  | sc, .idx a i, e => match e with
    | .Subscript x y _ => plainIxB y && (chE c sc a x && chE c sc i y)
    | _ => false
  | sc, .slc a lo hi, e => match e with
    | .Subscript x (.Slice l h none _) _ => chE c sc a x && (chO c sc lo l && chO c sc hi h)
    | _ => false
  | sc, .isi a t, e => match e with
    | .Call (.Name f _) [x, .Name y _] [] _ => freeB c sc f "isinstance" && (freeB c sc y (tyN t) && (plainE x && chE c sc a x))
    | _ => false
  | sc, .call f y l, e => match e with
    | .Call (.Name x _) es [] _ => (match c.fl[f]? with
      | some z => z == x
      | none => false) && (glB sc x && (dbgB x && (es.all plainE && chR c sc l es)))
    | _ => false
  | sc, .bl1 b a, e => match e with
    | .Call (.Name f _) [x] [] _ => freeB c sc f (b1N b) && (plainE x && chE c sc a x)
    | _ => false
  | sc, .bl2 b a d, e => match e with
    | .Call (.Name f _) [x, y] [] _ => freeB c sc f (b2N b) && (plainE x && (plainE y && (chE c sc a x && chE c sc d y)))
    | _ => false
  | sc, .dsp ks l, e => match e with
    | .Dict keys vs _ => chP c sc ks l keys vs
    | _ => false
  | sc, .mg1 o k, e => match e with
    | .Call (.Attribute x m ap) [y] [] cp => (m == ("get" : Str)) && (baseB x && (plainE y && ((ap.endLine == cp.line) && (chE c sc o x && chE c sc k y))))
    | _ => false
  | sc, .mg2 o k d, e => match e with
    | .Call (.Attribute x m ap) [y, z] [] cp => (m == ("get" : Str)) && (baseB x && (plainE y && (plainE z && ((ap.endLine == cp.line) && (chE c sc o x && (chE c sc k y && chE c sc d z))))))
    | _ => false
  | sc, .cm1 own elt t it cn, e => match e with
    | .ListComp elt' [g] scope _ => (g.is_async == 0) && (notSet g.iter && (chI c sc it g.target g.iter && (blkB c.N sc scope own && (chG c (cfn scope) (relS scope sc) t g.target && (chT c (relS scope sc) cn g.ifs && (chE c (relS scope sc) elt elt' &&
        (slotsT t).all (fun i => (own.map (·.2)).contains i)))))))
    | _ => false
  | sc, .cm2 own own2 elt t it cn t2 it2 cn2, e => match e with
    | .ListComp elt' [g, g2] scope _ => (g.is_async == 0) && (notSet g.iter && (chI c sc it g.target g.iter && (blkB c.N sc scope own && (chG c (cfn scope) (relS scope sc) t g.target && (chT c (relS scope sc) cn g.ifs && (chE c (relS scope sc) elt elt' &&
        ((slotsT t).all (fun i => (own.map (·.2)).contains i) && ((g2.is_async == 0) && (notSet g2.iter && (chI c (relS scope sc) it2 g2.target g2.iter && (chG c (cfn scope) (relS scope sc) t2 g2.target && (chT c (relS scope sc) cn2 g2.ifs &&
        ((slotsT t2).all (fun i => own2.contains i) && own2.all (fun i => (own.map (·.2)).contains i))))))))))))))
    | _ => false
def chA (c : Ck) : Scope → IA → List Expr → Bool
  | sc, .nil, es => match es with
    | [] => true
    | _ => false
  | sc, .cons a l, es => match es with
    | e :: r => plainE e && (chE c sc a e && chA c sc l r)
    | _ => false
  | _, .lend _ _, _ => false
def chR (c : Ck) : Scope → IA → List Expr → Bool
  | sc, .nil, es => match es with
    | [] => true
    | _ => false
  | sc, .cons a l, es => match es with
    | e :: r => plainE e && (chE c sc a e && chR c sc l r)
    | _ => false
  | sc, .lend i l, es => match es with
    | .Name x _ :: r => slotB c i x && (visB sc x && (dbgB x && chR c sc l r))
    | _ => false
def chP (c : Ck) : Scope → List Const → IA → List (Option Expr) → List Expr → Bool
  | sc, k :: ks, .cons a l, some (.Constant k' _ _) :: r, e :: es => keyCB k && (cstEq k k' && (chE c sc a e && chP c sc ks l r es))
  | sc, [], .nil, [], [] => true
  | _, _, _, _, _ => false
def chO (c : Ck) : Scope → IO → Option Expr → Bool
  | sc, .no, e => match e with
    | none => true
    | _ => false
  | sc, .yes a, e => match e with
    | some x => chE c sc a x
    | _ => false
def chT (c : Ck) : Scope → IO → List Expr → Bool
  | sc, .no, e => match e with
    | [] => true
    | _ => false
  | sc, .yes a, e => match e with
    | [x] => chE c sc a x
    | _ => false
def chI (c : Ck) : Scope → II → Expr → Expr → Bool
  | sc, .val a, tg, e => chE c sc a e
  | sc, .rg1 a, tg, e => match e with
    | .Call (.Name f _) [x] [] _ => freeB c sc f "range" && (plainE x && chE c sc a x)
    | _ => false
  | sc, .rg2 a b, tg, e => match e with
    | .Call (.Name f _) [x, y] [] _ => freeB c sc f "range" && (plainE x && (plainE y && (chE c sc a x && chE c sc b y)))
    | _ => false
  | sc, .enm a, tg, e => match tg, e with
    | .Tuple _ _ _, .Call (.Name f _) [x] [] _ => freeB c sc f "enumerate" && (plainE x && chE c sc a x)
    | _, _ => false
  | sc, .zip a b, tg, e => match tg, e with
    | .Tuple _ _ _, .Call (.Name f _) [x, y] [] _ => freeB c sc f "zip" && (plainE x && (plainE y && (chE c sc a x && chE c sc b y)))
    | _, _ => false
end
end Ev

set_option linter.all false
set_option maxHeartbeats 4000000
namespace Ev
open PySem PySem.Spec PyProof.Rows L2
def FnC (X : Cx) (call : Nat → List Sl → CR) (i : Nat) (x : Str) : Prop :=
  ∃ (k : Nat) (ad : Addr) (fd : FuncData) (ps : List Str), FnOk X.prog X.w X.K X.mg X.base L2.CX0 k ad fd ps (spOf X.K (call i)) ∧ Room k X.A ∧ X.mg x = some (.ref ad) ∧ PySem.W.keepIn X.K (.ref ad) = true ∧ Binds X.K fd ps []
def GlC (X : Cx) (x : Str) (d : D) : Prop := ∃ (u : Value) (v : V), X.mg x = some u ∧ RelV v u ∧ Rp X.K (fun _ => none) v d
/-- what a frame's context must have -/
structure Ct (c : Ck) (call : Nat → List Sl → CR) (sc : Scope) (fnB : Str → Bool) (X : Cx) : Prop where
  N : X.N = c.N
  nd : c.N.Nodup
  calm : X.calm = true
  un : X.A.units + 65 < cLine
  bs : ∀ x ∈ c.bs, X.mg x = none
  fn : ∀ (i : Nat) (x : Str), c.fl[i]? = some x → FnC X call i x
  gl : ∀ (x : Str) (d : D), c.gl.lookup x = some d → GlC X x d
  sc : X.env.scope = sc
  fnb : ∀ x, fnB x = true → X.fn x = true
theorem Ct.blk {c : Ck} {call : Nat → List Sl → CR} {sc : Scope} {fnB : Str → Bool} {X : Cx} (h : Ct c call sc fnB X) (s : Shared) (H : Hp) (scope : Scope) (cl : List (Str × Addr)) (C : Addr) (fp : List Addr) :
    Ct c call (relS scope sc) (cfn scope) (X.blk s H scope (compEnvC scope cl C X.env) fp) where
  N := h.N
  nd := h.nd
  calm := h.calm
  un := h.un
  bs := h.bs
  fn := h.fn
  gl := h.gl
  sc := by
    have e := h.sc
    subst e
    rfl
  fnb := fun x hx => hx
theorem slotB_ok {c : Ck} {i : Nat} {x : Str} (h : slotB c i x = true) : c.N[i]? = some x := by
  unfold slotB at h
  split at h
  · rename_i y hy
    rw [hy, eq_of_beq h]
  · cases h
theorem visB_ok {sc : Scope} {x : Str} (h : visB sc x = true) : Vis sc x := by
  unfold visB at h
  split at h
  · rename_i e; exact .inl e
  · rename_i e; exact .inr (.inl e)
  · rename_i e; exact .inr (.inr e)
  · cases h
theorem locB_ok {sc : Scope} {x : Str} (h : locB sc x = true) : Loc sc x := by
  unfold locB at h
  split at h
  · rename_i e; exact .inl e
  · rename_i e; exact .inr e
  · cases h
theorem isLoc_ok {sc : Scope} {x : Str} (h : isLoc sc x = true) : sc.names.lookup x = some .local := by
  unfold isLoc at h
  split at h
  · assumption
  · cases h
theorem glB_ok {X : Cx} {sc : Scope} {x : Str} (e : X.env.scope = sc) (h : glB sc x = true) : Gl X x := by
  unfold glB at h
  split at h
  · rename_i q
    subst e
    exact q
  · cases h
theorem dbgB_ok {x : Str} (h : dbgB x = true) : (x == ("__debug__" : Str)) = false ∧ (x == ("__classdict__" : Str)) = false := by
  unfold dbgB at h
  simpa using h
theorem freeB_ok {c : Ck} {call : Nat → List Sl → CR} {sc : Scope} {fnB : Str → Bool} {X : Cx} (ct : Ct c call sc fnB X) {x y : Str} (h : freeB c sc x y = true) : x = y ∧ X.mg y = none ∧ Gl X y := by
  unfold freeB at h
  rw [Bool.and_eq_true, Bool.and_eq_true] at h
  have e := eq_of_beq h.1
  subst e
  exact ⟨rfl, ct.bs _ (by simpa using h.2.1), glB_ok ct.sc h.2.2⟩
theorem cstEq_ok {a b : Const} (h : cstEq a b = true) : a = b := by
  cases a <;> cases b <;> simp [cstEq] at h <;> first | rfl | (subst h; rfl)
/-- is the test of it the truth of its value? -/
def plainT : Expr → Bool
  | .UnaryOp .Not _ _ => false
  | .BoolOp _ _ _ => false
  | .IfExp _ _ _ _ => false
  | .Compare _ _ _ _ => false
  | _ => true
theorem plainT_ok {e : Expr} {env : PySem.Env} (h : plainT e = true) : ∀ whole, isTrue e env whole = (do let v ← whole; standAt e.pos; holding [v] (truthy v)) := by
  intro whole
  cases e with
  | UnaryOp op x p =>
    cases op with
    | Not => simp [plainT] at h
    | _ => rfl
  | BoolOp => simp [plainT] at h
  | IfExp => simp [plainT] at h
  | Compare => simp [plainT] at h
  | _ => rfl
def Tri (X : Cx) (B : Bs) (ex : Expr) (p : (Env → Res TV) × (Env → Res Bool)) : Prop :=
  PE X ex (RdE X.K B p.1) ∧ PT X ex (RdC X.K B p.2) ∧ ((∃ op l q, ex = .BoolOp op l q) → PW X ex (RdC X.K B p.2))
theorem tri {X : Cx} {B : Bs} {ex : Expr} {f : Env → Res TV} (h : PE X ex (RdE X.K B f)) (hp : plainT ex = true) : Tri X B ex (tst f) :=
  ⟨h, rd_tst (plainT_ok hp) h, fun ⟨op, l, q, e⟩ => by subst e; simp [plainT] at hp⟩
theorem folded_ok {e : Expr} {env : PySem.Env} (h : notSet e = true) : ∀ x, foldedSetIterable e env x = pure x := by
  intro x
  cases e <;> first | rfl | (simp [notSet] at h)
theorem plainIx_ok {e : Expr} (h : plainIxB e = true) : PlainIx e := by
  intro o i
  cases e <;> first | rfl | (simp [plainIxB] at h)
theorem blkB_ok {N : List Str} {sc scope : Scope} {own : List (Str × Nat)} (h : blkB N sc scope own = true) : BlkOk N sc scope own := by
  unfold blkB at h
  simp only [Bool.and_eq_true, List.all_eq_true, decide_eq_true_eq, Bool.or_eq_true, Bool.not_eq_true', decide_eq_false_iff_not, List.contains_iff_mem] at h
  obtain ⟨h1, h2, h3, h4, h5⟩ := h
  refine ⟨h1, h2, h3, fun y hy e => ?_, fun y hy e => ?_⟩
  · rcases h4 y hy with z | z
    · exact absurd e z
    · exact z
  · rcases h5 y hy with z | z
    · simp only [Bool.or_eq_false_iff, decide_eq_false_iff_not] at z
      rcases e with e | e
      · exact absurd e z.1
      · exact absurd e z.2
    · rcases z with z | z
      · exact .inl z
      · exact .inr (by simpa using z)
theorem sub_ok {l m : List Nat} (h : (l.all fun i => m.contains i) = true) : ∀ i ∈ l, i ∈ m := by
  intro i hi
  rw [List.all_eq_true] at h
  simpa using h i hi
section
variable {c : Ck} {call : Nat → List Sl → CR} {fnB : Str → Bool}
mutual
theorem okG {sc : Scope} {X : Cx} {B : Bs} (ct : Ct c call sc fnB X) : ∀ (t : IT) (ex : Expr), chG c fnB sc t ex = true → PG X ex (RdG X.K B t)
  | .n i m, ex, h => by
    unfold chG at h
    split at h
    · rename_i x p
      simp only [Bool.and_eq_true, Bool.not_eq_true', Bool.or_eq_true] at h
      obtain ⟨h1, h2, h3, h4⟩ := h
      subst h1
      refine rg_name (ct.N ▸ ct.nd) (ct.N ▸ slotB_ok h2) (ct.sc ▸ locB_ok h3) ?_
      rcases h4 with h4 | h4
      · exact .inl (ct.fnb _ h4)
      · exact .inr (ct.sc ▸ isLoc_ok h4)
    · cases h
  | .t l, ex, h => by
    unfold chG at h
    split at h
    · rename_i es k p
      simp only [Bool.and_eq_true] at h
      obtain ⟨h1, h2, h3⟩ := h
      exact rg_tup ct.calm h1 (eq_of_beq h2) (okGs ct l es h3 h1)
    · cases h
theorem okGs {sc : Scope} {X : Cx} {B : Bs} (ct : Ct c call sc fnB X) : ∀ (t : List IT) (es : List Expr), chGs c fnB sc t es = true → es.all plainE = true → PGs X es (RdGs X.K B t)
  | [], [], _, _ => rgs_nil
  | [], _ :: _, h, _ => by simp [chGs] at h
  | _ :: _, [], h, _ => by simp [chGs] at h
  | t :: ts, e :: es, h, hp => by
    simp only [chGs, Bool.and_eq_true] at h
    rw [List.all_cons, Bool.and_eq_true] at hp
    exact rgs_cons hp.1 (okG ct t e h.1) (okGs ct ts es h.2 hp.2)
end
end
def OkE (c : Ck) (call : Nat → List Sl → CR) (e : IE) : Prop := ∀ (sc : Scope) (fnB : Str → Bool) (X : Cx) (B : Bs) (ex : Expr), Ct c call sc fnB X → chE c sc e ex = true → Tri X B ex (ev call e)
def OkA (c : Ck) (call : Nat → List Sl → CR) (l : IA) : Prop := ∀ (sc : Scope) (fnB : Str → Bool) (X : Cx) (B : Bs) (es : List Expr), Ct c call sc fnB X → chA c sc l es = true → PA X es (RdA X.K B (evA call l))
def OkR (c : Ck) (call : Nat → List Sl → CR) (l : IA) : Prop := ∀ (sc : Scope) (fnB : Str → Bool) (X : Cx) (B : Bs) (es : List Expr), Ct c call sc fnB X → chR c sc l es = true → PA X es (RdR X.K B (evR call l)) ∧ (es = [] → evR call l = fun r => .ok [] r)
def OkP (c : Ck) (call : Nat → List Sl → CR) (l : IA) : Prop := ∀ (sc : Scope) (fnB : Str → Bool) (X : Cx) (B : Bs) (ks : List Const) (keys : List (Option Expr)) (es : List Expr), Ct c call sc fnB X → chP c sc ks l keys es = true → ∃ trs, PV X B call keys es ks l trs
def OkO (c : Ck) (call : Nat → List Sl → CR) (l : IO) : Prop := ∀ (sc : Scope) (fnB : Str → Bool) (X : Cx) (B : Bs) (e : Option Expr), Ct c call sc fnB X → chO c sc l e = true → PO X e (RdO X.K B (evO call l))
def OkT (c : Ck) (call : Nat → List Sl → CR) (l : IO) : Prop := ∀ (sc : Scope) (fnB : Str → Bool) (X : Cx) (B : Bs) (es : List Expr), Ct c call sc fnB X → chT c sc l es = true → PTs X es (RdC X.K B (evT call l))
def OkI (c : Ck) (call : Nat → List Sl → CR) (l : II) : Prop := ∀ (sc : Scope) (fnB : Str → Bool) (X : Cx) (B : Bs) (tg e : Expr), Ct c call sc fnB X → chI c sc l tg e = true → PI X tg e (RdI X.K B (evI call l))
theorem rd_const {X : Cx} {B : Bs} {v : V} {d : D} {ex : Expr} (h : PE X ex (tC v)) (hr : ∀ F, Rp X.K F v d) : PE X ex (RdE X.K B fun r => .ok (.d d) r) :=
  PE.imp h fun σ H Q ⟨F, r, s, t, r', e, k⟩ => by
    cases e
    exact k v F H (Post.refl s) (hr F)
section
variable {c : Ck} {call : Nat → List Sl → CR}
theorem ok_cst (d : Const) : OkE c call (.cst d) := fun sc fnB X B ex ct h => by
  unfold chE at h
  split at h
  · rename_i d' k p
    have e := cstEq_ok h
    subst e
    cases d with
    | none => exact tri (rd_const pe_non fun F => .non) rfl
    | bool b => exact tri (rd_const pe_bl fun F => .bl b) rfl
    | int i => exact tri (rd_const pe_int fun F => .int i) rfl
    | str s => exact tri (rd_const pe_str fun F => .str s) rfl
    | _ => simp [cstEq] at h
  · cases h
theorem ok_var (i : Nat) : OkE c call (.var i) := fun sc fnB X B ex ct h => by
  unfold chE at h
  split at h
  · rename_i x p
    simp only [Bool.and_eq_true] at h
    obtain ⟨h1, h2, h3⟩ := h
    obtain ⟨d1, d2⟩ := dbgB_ok h3
    exact tri (rd_var (ct.N ▸ slotB_ok h1) (ct.sc ▸ visB_ok h2) d1 d2 call) rfl
  · cases h
theorem ok_glob (y : Str) (d : D) : OkE c call (.glob y d) := fun sc fnB X B ex ct h => by
  unfold chE at h
  split at h
  · rename_i x p
    simp only [Bool.and_eq_true] at h
    obtain ⟨h1, h2, h3, h4⟩ := h
    have e := eq_of_beq h1
    subst e
    obtain ⟨u, v, g1, g2, g3⟩ := ct.gl _ _ (glIs_ok h4)
    exact tri (rd_const (pe_glob (glB_ok ct.sc h2) g1 g2 (dbgB_ok h3).1) fun F => g3.mono fun a o q => by cases q) rfl
  · cases h
theorem ok_bin (o : Bo) {a b : IE} (ha : OkE c call a) (hb : OkE c call b) : OkE c call (.bin o a b) := fun sc fnB X B ex ct h => by
  unfold chE at h
  split at h
  · rename_i l op r p
    simp only [Bool.and_eq_true, decide_eq_true_eq] at h
    obtain ⟨h1, h2, h3⟩ := h
    subst h1
    exact tri (rd_bin o (ha sc fnB X B l ct h2).1 (hb sc fnB X B r ct h3).1) rfl
  · cases h
theorem ok_neg {a : IE} (ha : OkE c call a) : OkE c call (.neg a) := fun sc fnB X B ex ct h => by
  unfold chE at h
  split at h
  · rename_i x p
    exact tri (rd_neg (ha sc fnB X B x ct h).1) rfl
  · cases h
theorem ok_cmp (o : Co) {a b : IE} (ha : OkE c call a) (hb : OkE c call b) : OkE c call (.cmp o a b) := fun sc fnB X B ex ct h => by
  unfold chE at h
  split at h
  · rename_i l op r p
    simp only [Bool.and_eq_true, decide_eq_true_eq, Bool.not_eq_true'] at h
    obtain ⟨h1, h2, h3, h4⟩ := h
    subst h1
    exact ⟨rd_cmp ct.un o h2 (ha sc fnB X B l ct h3).1 (hb sc fnB X B r ct h4).1, rd_cmpT ct.un o h2 (ha sc fnB X B l ct h3).1 (hb sc fnB X B r ct h4).1, fun ⟨_, _, _, e⟩ => by cases e⟩
  · cases h
theorem ok_chn (o p : Co) {a b d : IE} (ha : OkE c call a) (hb : OkE c call b) (hd : OkE c call d) : OkE c call (.chn o p a b d) := fun sc fnB X B ex ct h => by
  unfold chE at h
  split at h
  · rename_i l op op' r q pos
    simp only [Bool.and_eq_true, decide_eq_true_eq, Bool.not_eq_true'] at h
    obtain ⟨h1, h2, h3, h4, h5, h6⟩ := h
    subst h1 h2
    exact ⟨rd_chn ct.un o p h3 (ha sc fnB X B l ct h4).1 (hb sc fnB X B r ct h5).1 (hd sc fnB X B q ct h6).1, rd_chnT ct.un o p h3 (ha sc fnB X B l ct h4).1 (hb sc fnB X B r ct h5).1 (hd sc fnB X B q ct h6).1, fun ⟨_, _, _, e⟩ => by cases e⟩
  · cases h
theorem not_tst {X : Cx} {B : Bs} {a : Expr} {pos : Pos} {f : Env → Res TV} (h : PE X a (RdE X.K B f)) : PE X (.UnaryOp .Not a pos) (RdE X.K B fun r => ((tst f).2 r).bind fun t r1 => .ok (.d (.bool (!t))) r1) := rd_not h
theorem ok_not {a : IE} (ha : OkE c call a) : OkE c call (.not a) := fun sc fnB X B ex ct h => by
  unfold chE at h
  split at h
  · rename_i x p
    obtain ⟨h1, h2, _⟩ := ha sc fnB X B x ct h
    exact ⟨rd_not h1, rd_notT h2, fun ⟨_, _, _, e⟩ => by cases e⟩
  · cases h
theorem ok_and {a b : IE} (ha : OkE c call a) (hb : OkE c call b) : OkE c call (.and a b) := fun sc fnB X B ex ct h => by
  unfold chE at h
  split at h
  · rename_i e1 rest pos
    rw [Bool.and_eq_true] at h
    obtain ⟨h1, h2⟩ := h
    obtain ⟨a1, a2, _⟩ := ha sc fnB X B e1 ct h1
    split at h2
    · cases h2
    · rename_i e2
      obtain ⟨b1, b2, _⟩ := hb sc fnB X B e2 ct h2
      have w := rd_andC a2 (pos := pos) (pw_and1 b2)
      exact ⟨rd_andE a1 (rd_one b1), w.pt, fun _ => w⟩
    · rename_i e2 e3 r
      obtain ⟨b1, b2, b3⟩ := hb sc fnB X B _ ct h2
      have w := rd_andC a2 (b3 ⟨_, _, _, rfl⟩)
      exact ⟨rd_andE a1 b1, w.pt, fun _ => w⟩
  · cases h
theorem ok_or {a b : IE} (ha : OkE c call a) (hb : OkE c call b) : OkE c call (.or a b) := fun sc fnB X B ex ct h => by
  unfold chE at h
  split at h
  · rename_i e1 rest pos
    rw [Bool.and_eq_true] at h
    obtain ⟨h1, h2⟩ := h
    obtain ⟨a1, a2, _⟩ := ha sc fnB X B e1 ct h1
    split at h2
    · cases h2
    · rename_i e2
      obtain ⟨b1, b2, _⟩ := hb sc fnB X B e2 ct h2
      have w := rd_orC a2 (pos := pos) (pw_or1 b2)
      exact ⟨rd_orE a1 (rd_one b1), w.pt, fun _ => w⟩
    · rename_i e2 e3 r
      obtain ⟨b1, b2, b3⟩ := hb sc fnB X B _ ct h2
      have w := rd_orC a2 (b3 ⟨_, _, _, rfl⟩)
      exact ⟨rd_orE a1 b1, w.pt, fun _ => w⟩
  · cases h
theorem ok_ife {t a b : IE} (ht : OkE c call t) (ha : OkE c call a) (hb : OkE c call b) : OkE c call (.ife t a b) := fun sc fnB X B ex ct h => by
  unfold chE at h
  split at h
  · rename_i t' a' b' pos
    simp only [Bool.and_eq_true] at h
    obtain ⟨h1, h2, h3⟩ := h
    obtain ⟨_, t2, _⟩ := ht sc fnB X B t' ct h1
    obtain ⟨a1, a2, _⟩ := ha sc fnB X B a' ct h2
    obtain ⟨b1, b2, _⟩ := hb sc fnB X B b' ct h3
    exact ⟨rd_ifeE t2 a1 b1, rd_ifeC t2 a2 b2, fun ⟨_, _, _, e⟩ => by cases e⟩
  · cases h
theorem ok_tup {l : IA} (hl : OkA c call l) : OkE c call (.tup l) := fun sc fnB X B ex ct h => by
  unfold chE at h
  split at h
  · exact tri (rd_tup (hl sc fnB X B _ ct h)) rfl
  · cases h
theorem ok_lst {l : IA} (hl : OkA c call l) : OkE c call (.lst l) := fun sc fnB X B ex ct h => by
  unfold chE at h
  split at h
  · exact tri (rd_lst (hl sc fnB X B _ ct h)) rfl
  · cases h
theorem ok_idx {a b : IE} (ha : OkE c call a) (hb : OkE c call b) : OkE c call (.idx a b) := fun sc fnB X B ex ct h => by
  unfold chE at h
  split at h
  · rename_i x y p
    simp only [Bool.and_eq_true] at h
    obtain ⟨h1, h2, h3⟩ := h
    exact tri (rd_idx (plainIx_ok h1) (ha sc fnB X B x ct h2).1 (hb sc fnB X B y ct h3).1) rfl
  · cases h
theorem ok_slc {a : IE} {lo hi : IO} (ha : OkE c call a) (hl : OkO c call lo) (hh : OkO c call hi) : OkE c call (.slc a lo hi) := fun sc fnB X B ex ct h => by
  unfold chE at h
  split at h
  · rename_i x l hh' p2 p
    simp only [Bool.and_eq_true] at h
    obtain ⟨h1, h2, h3⟩ := h
    exact tri (rd_slc (ha sc fnB X B x ct h1).1 (hl sc fnB X B _ ct h2) (hh sc fnB X B _ ct h3)) rfl
  · cases h
theorem ok_isi {a : IE} (t : Ty) (ha : OkE c call a) : OkE c call (.isi a t) := fun sc fnB X B ex ct h => by
  unfold chE at h
  split at h
  · rename_i f p1 x y p2 p3
    simp only [Bool.and_eq_true] at h
    obtain ⟨h1, h2, h3, h4⟩ := h
    obtain ⟨rfl, m1, g1⟩ := freeB_ok ct h1
    obtain ⟨rfl, m2, g2⟩ := freeB_ok ct h2
    exact tri (rd_isi g1 m1 g2 m2 h3 (ha sc fnB X B x ct h4).1) rfl
  · cases h
theorem ok_call {l : IA} (f : Nat) (y : Str) (hl : OkR c call l) : OkE c call (.call f y l) := fun sc fnB X B ex ct h => by
  unfold chE at h
  split at h
  · rename_i x p1 es p2
    simp only [Bool.and_eq_true] at h
    obtain ⟨h1, h2, h3, h4, h5⟩ := h
    split at h1
    · rename_i z hz
      have e := eq_of_beq h1
      subst e
      obtain ⟨k, ad, fd, ps, F, hr, hm, hk, hb⟩ := ct.fn f _ hz
      obtain ⟨r1, r2⟩ := hl sc fnB X B es ct h5
      exact tri (rd_call F hr (glB_ok ct.sc h2) hm hk hb (fun _ _ _ _ _ _ _ q => q.elim) h4 (dbgB_ok h3).1 r1 r2 call f rfl) rfl
    · cases h1
  · cases h
theorem ok_bl1 (b : B1) {a : IE} (ha : OkE c call a) : OkE c call (.bl1 b a) := fun sc fnB X B ex ct h => by
  unfold chE at h
  split at h
  · rename_i f p1 x p2
    simp only [Bool.and_eq_true] at h
    obtain ⟨h1, h2, h3⟩ := h
    obtain ⟨rfl, m1, g1⟩ := freeB_ok ct h1
    exact tri (rd_bl1 ct.calm b g1 m1 h2 (ha sc fnB X B x ct h3).1) rfl
  · cases h
theorem ok_bl2 (b : B2) {a d : IE} (ha : OkE c call a) (hd : OkE c call d) : OkE c call (.bl2 b a d) := fun sc fnB X B ex ct h => by
  unfold chE at h
  split at h
  · rename_i f p1 x y p2
    simp only [Bool.and_eq_true] at h
    obtain ⟨h1, h2, h3, h4, h5⟩ := h
    obtain ⟨rfl, m1, g1⟩ := freeB_ok ct h1
    exact tri (rd_bl2 ct.calm b g1 m1 h2 h3 (ha sc fnB X B x ct h4).1 (hd sc fnB X B y ct h5).1) rfl
  · cases h
theorem ok_dsp (ks : List Const) {l : IA} (hl : OkP c call l) : OkE c call (.dsp ks l) := fun sc fnB X B ex ct h => by
  unfold chE at h
  split at h
  · rename_i keys vs p
    obtain ⟨trs, pv⟩ := hl sc fnB X B ks keys vs ct h
    exact tri (rd_dsp pv) rfl
  · cases h
theorem un1 {A : Around} (h : A.units + 65 < cLine) : A.units + 1 < cLine := by omega
theorem ok_mg1 {o k : IE} (ho : OkE c call o) (hk : OkE c call k) : OkE c call (.mg1 o k) := fun sc fnB X B ex ct h => by
  unfold chE at h
  split at h
  · rename_i x m ap y cp
    simp only [Bool.and_eq_true] at h
    obtain ⟨h1, h2, h3, h4, h5, h6⟩ := h
    have e := eq_of_beq h1
    subst e
    exact tri (rd_mg1 (un1 ct.un) h2 h3 h4 (ho sc fnB X B x ct h5).1 (hk sc fnB X B y ct h6).1) rfl
  · cases h
theorem ok_mg2 {o k d : IE} (ho : OkE c call o) (hk : OkE c call k) (hd : OkE c call d) : OkE c call (.mg2 o k d) := fun sc fnB X B ex ct h => by
  unfold chE at h
  split at h
  · rename_i x m ap y z cp
    simp only [Bool.and_eq_true] at h
    obtain ⟨h1, h2, h3, h4, h5, h6, h7, h8⟩ := h
    have e := eq_of_beq h1
    subst e
    exact tri (rd_mg2 (un1 ct.un) h2 h3 h4 h5 (ho sc fnB X B x ct h6).1 (hk sc fnB X B y ct h7).1 (hd sc fnB X B z ct h8).1) rfl
  · cases h
end
end Ev

set_option linter.all false
set_option maxHeartbeats 4000000
namespace Ev
open PySem PySem.Spec PyProof.Rows L2
section
variable {c : Ck} {call : Nat → List Sl → CR}
/-- the parts of a comprehension of one clause -/
structure Lc1 (X : Cx) (B : Bs) (tg iter elt : Expr) (ifs : List Expr) (scope : Scope) (own : List (Str × Nat)) (t : IT) (gi : Env → Res (List D)) (gt : Env → Res Bool) (ge : Env → Res TV) : Prop where
  calm : X.calm = true
  nd : X.N.Nodup
  hi : PI X tg iter (RdI X.K B gi)
  ok : BlkOk X.N X.env.scope scope own
  hg : ∀ (s : Shared) (H : Hp) (C : Addr) (cl : List (Str × Addr)) (fp : List Addr), PG (X.blk s H scope (compEnvC scope cl C X.env) fp) tg (RdG X.K B t)
  ht : ∀ (s : Shared) (H : Hp) (C : Addr) (cl : List (Str × Addr)) (fp : List Addr), PTs (X.blk s H scope (compEnvC scope cl C X.env) fp) ifs (RdC X.K B gt)
  he : ∀ (s : Shared) (H : Hp) (C : Addr) (cl : List (Str × Addr)) (fp : List Addr), PE (X.blk s H scope (compEnvC scope cl C X.env) fp) elt (RdE X.K B ge)
  hs : ∀ x, foldedSetIterable iter X.env x = pure x
  hsl : ∀ i ∈ slotsT t, i ∈ own.map (·.2)
abbrev cm1G (own : List (Str × Nat)) (t : IT) (gi : Env → Res (List D)) (gt : Env → Res Bool) (ge : Env → Res TV) : Env → Res TV := fun r => (gi r).bind fun xs r1 =>
      match compL (fun x r2 => (asn t (.d x) (wipeE (own.map (·.2)) r2)).bind fun _ r3 =>
          (gt r3).bind fun ok r4 => match ok with
            | true => (ge r4).bind fun y r5 => (solidR r5 y).bind fun v r6 => .ok [v] r6
            | false => .ok [] r4) xs r1 with
      | .ok ys r2 => if ys.length ≤ SZ then .ok (.f (.list ys)) (backE r1 (own.map (·.2)) r2) else .stuck
      | _ => .stuck
structure Lc2 (X : Cx) (B : Bs) (tg iter elt tg2 iter2 : Expr) (ifs ifs2 : List Expr) (scope : Scope) (own : List (Str × Nat)) (own2 : List Nat) (t t2 : IT) (gi gi2 : Env → Res (List D)) (gt gt2 : Env → Res Bool) (ge : Env → Res TV) : Prop where
  one : Lc1 X B tg iter elt ifs scope own t gi gt ge
  hi2 : ∀ (s : Shared) (H : Hp) (C : Addr) (cl : List (Str × Addr)) (fp : List Addr), PI (X.blk s H scope (compEnvC scope cl C X.env) fp) tg2 iter2 (RdI X.K B gi2)
  hg2 : ∀ (s : Shared) (H : Hp) (C : Addr) (cl : List (Str × Addr)) (fp : List Addr), PG (X.blk s H scope (compEnvC scope cl C X.env) fp) tg2 (RdG X.K B t2)
  ht2 : ∀ (s : Shared) (H : Hp) (C : Addr) (cl : List (Str × Addr)) (fp : List Addr), PTs (X.blk s H scope (compEnvC scope cl C X.env) fp) ifs2 (RdC X.K B gt2)
  hs2 : ∀ env x, foldedSetIterable iter2 env x = pure x
  hsl2 : ∀ i ∈ slotsT t2, i ∈ own2
  hv : ∀ i ∈ own2, i ∈ own.map (·.2)
abbrev cm2G (own : List (Str × Nat)) (own2 : List Nat) (t t2 : IT) (gi gi2 : Env → Res (List D)) (gt gt2 : Env → Res Bool) (ge : Env → Res TV) : Env → Res TV := fun r => (gi r).bind fun xs r1 =>
      match compL (fun x r2 => (asn t (.d x) (wipeE (own.map (·.2)) r2)).bind fun _ r3 =>
          (gt r3).bind fun ok r4 => match ok with
            | true => (gi2 r4).bind fun zs r5 =>
              compL (fun z r6 => (asn t2 (.d z) (wipeE own2 r6)).bind fun _ r7 =>
                (gt2 r7).bind fun ok2 r8 => match ok2 with
                  | true => (ge r8).bind fun y r9 => (solidR r9 y).bind fun v r10 => .ok [v] r10
                  | false => .ok [] r8) zs r5
            | false => .ok [] r4) xs r1 with
      | .ok ys r2 => if ys.length ≤ SZ then .ok (.f (.list ys)) (backE r1 (own.map (·.2)) r2) else .stuck
      | _ => .stuck
section
variable {X : Cx} {B : Bs} {tg iter elt tg2 iter2 : Expr} {ifs ifs2 : List Expr} {scope : Scope} {own : List (Str × Nat)} {own2 : List Nat} {t t2 : IT} {gi gi2 : Env → Res (List D)} {gt gt2 : Env → Res Bool} {ge : Env → Res TV}
theorem Lc1.imp (h : Lc1 X B tg iter elt ifs scope own t gi gt ge) : ∀ σ H Q, RdE X.K B (cm1G own t gi gt ge) σ H Q → tLc (RdI X.K B gi) (RdG X.K B t) (RdC X.K B gt) (RdE X.K B ge) (own.map (·.2)) σ H Q :=
  rd_cm1 h.calm h.nd h.hi h.ok h.hg h.ht h.he h.hs h.hsl
theorem Lc1.pe {pos : Pos} (h : Lc1 X B tg iter elt ifs scope own t gi gt ge) : PE X (.ListComp elt [⟨tg, iter, ifs, 0⟩] scope pos) (RdE X.K B (cm1G own t gi gt ge)) :=
  PE.imp (pe_lc h.calm h.nd h.hi h.ok h.hg h.ht h.he h.hs) h.imp
theorem Lc2.imp (h : Lc2 X B tg iter elt tg2 iter2 ifs ifs2 scope own own2 t t2 gi gi2 gt gt2 ge) : ∀ σ H Q, RdE X.K B (cm2G own own2 t t2 gi gi2 gt gt2 ge) σ H Q → tLc2 (RdI X.K B gi) (RdG X.K B t) (RdC X.K B gt) (RdI X.K B gi2) (RdG X.K B t2) (RdC X.K B gt2) (RdE X.K B ge) (own.map (·.2)) own2 σ H Q :=
  rd_cm2 h.one.hsl h.hsl2 h.hv
theorem Lc2.pe {pos : Pos} (h : Lc2 X B tg iter elt tg2 iter2 ifs ifs2 scope own own2 t t2 gi gi2 gt gt2 ge) : PE X (.ListComp elt [⟨tg, iter, ifs, 0⟩, ⟨tg2, iter2, ifs2, 0⟩] scope pos) (RdE X.K B (cm2G own own2 t t2 gi gi2 gt gt2 ge)) :=
  PE.imp (pe_lc2 h.one.calm h.one.nd h.one.hi h.one.ok h.hv h.one.hg h.one.ht h.hi2 h.hg2 h.ht2 h.one.he h.one.hs h.hs2) h.imp
end
theorem lc1_of {elt : IE} {t : IT} {it : II} {cn : IO} {own : List (Str × Nat)} (hE : OkE c call elt) (hI : OkI c call it) (hT : OkT c call cn) {sc : Scope} {fnB : Str → Bool} {X : Cx} (B : Bs) {tg iter elt' : Expr} {ifs : List Expr} {scope : Scope} (ct : Ct c call sc fnB X)
    (h2 : notSet iter = true) (h3 : chI c sc it tg iter = true) (h4 : blkB c.N sc scope own = true) (h5 : chG c (cfn scope) (relS scope sc) t tg = true) (h6 : chT c (relS scope sc) cn ifs = true) (h7 : chE c (relS scope sc) elt elt' = true)
    (h8 : ((slotsT t).all fun i => (own.map (·.2)).contains i) = true) : Lc1 X B tg iter elt' ifs scope own t (evI call it) (evT call cn) (ev call elt).1 where
  calm := ct.calm
  nd := ct.N ▸ ct.nd
  hi := hI sc fnB X B tg iter ct h3
  ok := by
    have e := ct.sc
    have e2 := ct.N
    rw [e, e2]
    exact blkB_ok h4
  hg := fun s H C cl fp => okG (ct.blk s H scope cl C fp) t tg h5
  ht := fun s H C cl fp => hT _ _ _ B ifs (ct.blk s H scope cl C fp) h6
  he := fun s H C cl fp => (hE _ _ _ B elt' (ct.blk s H scope cl C fp) h7).1
  hs := folded_ok h2
  hsl := sub_ok h8
theorem ok_cm1 {elt : IE} {it : II} {cn : IO} (own : List (Str × Nat)) (t : IT) (hE : OkE c call elt) (hI : OkI c call it) (hT : OkT c call cn) : OkE c call (.cm1 own elt t it cn) := fun sc fnB X B ex ct h => by
  unfold chE at h
  split at h
  · rename_i elt' g scope p
    obtain ⟨tg, iter, ifs, asy⟩ := g
    simp only [Bool.and_eq_true] at h
    obtain ⟨h1, h2, h3, h4, h5, h6, h7, h8⟩ := h
    have e : asy = 0 := eq_of_beq h1
    subst e
    exact tri (lc1_of hE hI hT B ct h2 h3 h4 h5 h6 h7 h8).pe rfl
  · cases h
theorem ok_cm2 {elt : IE} {it it2 : II} {cn cn2 : IO} (own : List (Str × Nat)) (own2 : List Nat) (t t2 : IT) (hE : OkE c call elt) (hI : OkI c call it) (hT : OkT c call cn) (hI2 : OkI c call it2) (hT2 : OkT c call cn2) : OkE c call (.cm2 own own2 elt t it cn t2 it2 cn2) := fun sc fnB X B ex ct h => by
  unfold chE at h
  split at h
  · rename_i elt' g g2 scope p
    obtain ⟨tg, iter, ifs, asy⟩ := g
    obtain ⟨tg2, iter2, ifs2, asy2⟩ := g2
    simp only [Bool.and_eq_true] at h
    obtain ⟨h1, h2, h3, h4, h5, h6, h7, h8, h9, h10, h11, h12, h13, h14, h15⟩ := h
    have e : asy = 0 := eq_of_beq h1
    have e2 : asy2 = 0 := eq_of_beq h9
    subst e e2
    have l2 : Lc2 X B tg iter elt' tg2 iter2 ifs ifs2 scope own own2 t t2 (evI call it) (evI call it2) (evT call cn) (evT call cn2) (ev call elt).1 :=
      ⟨lc1_of hE hI hT B ct h2 h3 h4 h5 h6 h7 h8, fun s H C cl fp => hI2 _ _ _ B tg2 iter2 (ct.blk s H scope cl C fp) h11, fun s H C cl fp => okG (ct.blk s H scope cl C fp) t2 tg2 h12, fun s H C cl fp => hT2 _ _ _ B ifs2 (ct.blk s H scope cl C fp) h13,
        fun env => folded_ok h10, sub_ok h14, sub_ok h15⟩
    exact tri l2.pe rfl
  · cases h
theorem okA_nil : OkA c call .nil := fun sc fnB X B es ct h => by
  unfold chA at h
  split at h
  · exact rd_nil
  · cases h
theorem okA_cons {a : IE} {l : IA} (ha : OkE c call a) (hl : OkA c call l) : OkA c call (.cons a l) := fun sc fnB X B es ct h => by
  unfold chA at h
  split at h
  · rename_i e r
    simp only [Bool.and_eq_true] at h
    obtain ⟨h1, h2, h3⟩ := h
    exact rd_cons (ha sc fnB X B e ct h2).1 (hl sc fnB X B r ct h3) (star_cons h1)
  · cases h
theorem okA_lend (i : Nat) (l : IA) : OkA c call (.lend i l) := fun sc fnB X B es ct h => by
  simp [chA] at h
theorem okR_nil : OkR c call .nil := fun sc fnB X B es ct h => by
  unfold chR at h
  split at h
  · exact ⟨rr_nil, fun _ => by funext r; rfl⟩
  · cases h
theorem okR_cons {a : IE} {l : IA} (ha : OkE c call a) (hl : OkR c call l) : OkR c call (.cons a l) := fun sc fnB X B es ct h => by
  unfold chR at h
  split at h
  · rename_i e r
    simp only [Bool.and_eq_true] at h
    obtain ⟨h1, h2, h3⟩ := h
    exact ⟨rr_cons (ha sc fnB X B e ct h2).1 (hl sc fnB X B r ct h3).1 (star_cons h1), fun z => by cases z⟩
  · cases h
theorem okR_lend (i : Nat) {l : IA} (hl : OkR c call l) : OkR c call (.lend i l) := fun sc fnB X B es ct h => by
  unfold chR at h
  split at h
  · rename_i x p r
    simp only [Bool.and_eq_true] at h
    obtain ⟨h1, h2, h3, h4⟩ := h
    obtain ⟨d1, d2⟩ := dbgB_ok h3
    exact ⟨rr_lend (ct.N ▸ slotB_ok h1) (ct.sc ▸ visB_ok h2) d1 d2 (hl sc fnB X B r ct h4).1, fun z => by cases z⟩
  · cases h
theorem okP_nil : OkP c call .nil := fun sc fnB X B ks keys es ct h => by
  cases ks with
  | nil =>
    cases keys with
    | nil =>
      cases es with
      | nil => exact ⟨_, .nil⟩
      | cons => simp [chP] at h
    | cons => cases es <;> simp [chP] at h
  | cons => simp [chP] at h
theorem okP_cons {a : IE} {l : IA} (ha : OkE c call a) (hl : OkP c call l) : OkP c call (.cons a l) := fun sc fnB X B ks keys es ct h => by
  cases ks with
  | nil => cases keys <;> cases es <;> simp [chP] at h
  | cons k ks =>
    cases keys with
    | nil => simp [chP] at h
    | cons ko r =>
      cases ko with
      | none => simp [chP] at h
      | some ke =>
        cases es with
        | nil => simp [chP] at h
        | cons e es =>
          cases ke with
          | Constant k' j p =>
            simp only [chP, Bool.and_eq_true] at h
            obtain ⟨h1, h2, h3, h4⟩ := h
            have e' := cstEq_ok h2
            subst e'
            obtain ⟨trs, pv⟩ := hl sc fnB X B ks r es ct h4
            refine ⟨_, .cons ?_ (ha sc fnB X B e ct h3).1 pv⟩
            cases k with
            | int i => exact pe_int
            | str s => exact pe_str
            | _ => simp [keyCB] at h1
          | _ => simp [chP] at h
theorem okP_lend (i : Nat) (l : IA) : OkP c call (.lend i l) := fun sc fnB X B ks keys es ct h => by
  simp [chP] at h
theorem okO_no : OkO c call .no := fun sc fnB X B e ct h => by
  unfold chO at h
  split at h
  · exact rd_no
  · cases h
theorem okO_yes {a : IE} (ha : OkE c call a) : OkO c call (.yes a) := fun sc fnB X B e ct h => by
  unfold chO at h
  split at h
  · exact rd_yes (ha sc fnB X B _ ct h).1
  · cases h
theorem okT_no : OkT c call .no := fun sc fnB X B e ct h => by
  unfold chT at h
  split at h
  · exact rt_no
  · cases h
theorem okT_yes {a : IE} (ha : OkE c call a) : OkT c call (.yes a) := fun sc fnB X B e ct h => by
  unfold chT at h
  split at h
  · exact pts_one (ha sc fnB X B _ ct h).2.1
  · cases h
theorem okI_val {a : IE} (ha : OkE c call a) : OkI c call (.val a) := fun sc fnB X B tg e ct h => ri_val (ha sc fnB X B e ct h).1
theorem okI_rg1 {a : IE} (ha : OkE c call a) : OkI c call (.rg1 a) := fun sc fnB X B tg e ct h => by
  unfold chI at h
  split at h
  · rename_i f p1 x p2
    simp only [Bool.and_eq_true] at h
    obtain ⟨h1, h2, h3⟩ := h
    obtain ⟨rfl, m1, g1⟩ := freeB_ok ct h1
    exact ri_rg1 g1 m1 h2 (ha sc fnB X B x ct h3).1
  · cases h
theorem okI_rg2 {a b : IE} (ha : OkE c call a) (hb : OkE c call b) : OkI c call (.rg2 a b) := fun sc fnB X B tg e ct h => by
  unfold chI at h
  split at h
  · rename_i f p1 x y p2
    simp only [Bool.and_eq_true] at h
    obtain ⟨h1, h2, h3, h4, h5⟩ := h
    obtain ⟨rfl, m1, g1⟩ := freeB_ok ct h1
    exact ri_rg2 g1 m1 h2 h3 (ha sc fnB X B x ct h4).1 (hb sc fnB X B y ct h5).1
  · cases h
theorem okI_enm {a : IE} (ha : OkE c call a) : OkI c call (.enm a) := fun sc fnB X B tg e ct h => by
  unfold chI at h
  split at h
  · rename_i es k p f p1 x p2
    simp only [Bool.and_eq_true] at h
    obtain ⟨h1, h2, h3⟩ := h
    obtain ⟨rfl, m1, g1⟩ := freeB_ok ct h1
    exact ri_enm g1 m1 h2 (ha sc fnB X B x ct h3).1
  · cases h
theorem okI_zip {a b : IE} (ha : OkE c call a) (hb : OkE c call b) : OkI c call (.zip a b) := fun sc fnB X B tg e ct h => by
  unfold chI at h
  split at h
  · rename_i es k p f p1 x y p2
    simp only [Bool.and_eq_true] at h
    obtain ⟨h1, h2, h3, h4, h5⟩ := h
    obtain ⟨rfl, m1, g1⟩ := freeB_ok ct h1
    exact ri_zip g1 m1 h2 h3 (ha sc fnB X B x ct h4).1 (hb sc fnB X B y ct h5).1
  · cases h
mutual
theorem okE (c : Ck) (call : Nat → List Sl → CR) : ∀ e : IE, OkE c call e
  | .cst d => ok_cst d
  | .var i => ok_var i
  | .glob y d => ok_glob y d
  | .bin o a b => ok_bin o (okE c call a) (okE c call b)
  | .neg a => ok_neg (okE c call a)
  | .cmp o a b => ok_cmp o (okE c call a) (okE c call b)
  | .chn o p a b d => ok_chn o p (okE c call a) (okE c call b) (okE c call d)
  | .not a => ok_not (okE c call a)
  | .and a b => ok_and (okE c call a) (okE c call b)
  | .or a b => ok_or (okE c call a) (okE c call b)
  | .ife t a b => ok_ife (okE c call t) (okE c call a) (okE c call b)
  | .tup l => ok_tup (okA c call l)
  | .lst l => ok_lst (okA c call l)
  | .idx a i => ok_idx (okE c call a) (okE c call i)
  | .slc a lo hi => ok_slc (okE c call a) (okO c call lo) (okO c call hi)
  | .isi a t => ok_isi t (okE c call a)
  | .call f y l => ok_call f y (okR c call l)
  | .bl1 b a => ok_bl1 b (okE c call a)
  | .bl2 b a d => ok_bl2 b (okE c call a) (okE c call d)
  | .dsp ks l => ok_dsp ks (okP c call l)
  | .mg1 o k => ok_mg1 (okE c call o) (okE c call k)
  | .mg2 o k d => ok_mg2 (okE c call o) (okE c call k) (okE c call d)
  | .cm1 own elt t it cn => ok_cm1 own t (okE c call elt) (okI c call it) (okT c call cn)
  | .cm2 own own2 elt t it cn t2 it2 cn2 => ok_cm2 own own2 t t2 (okE c call elt) (okI c call it) (okT c call cn) (okI c call it2) (okT c call cn2)
theorem okA (c : Ck) (call : Nat → List Sl → CR) : ∀ l : IA, OkA c call l
  | .nil => okA_nil
  | .cons a l => okA_cons (okE c call a) (okA c call l)
  | .lend i l => okA_lend i l
theorem okR (c : Ck) (call : Nat → List Sl → CR) : ∀ l : IA, OkR c call l
  | .nil => okR_nil
  | .cons a l => okR_cons (okE c call a) (okR c call l)
  | .lend i l => okR_lend i (okR c call l)
theorem okP (c : Ck) (call : Nat → List Sl → CR) : ∀ l : IA, OkP c call l
  | .nil => okP_nil
  | .cons a l => okP_cons (okE c call a) (okP c call l)
  | .lend i l => okP_lend i l
theorem okO (c : Ck) (call : Nat → List Sl → CR) : ∀ l : IO, OkO c call l
  | .no => okO_no
  | .yes a => okO_yes (okE c call a)
theorem okT (c : Ck) (call : Nat → List Sl → CR) : ∀ l : IO, OkT c call l
  | .no => okT_no
  | .yes a => okT_yes (okE c call a)
theorem okI (c : Ck) (call : Nat → List Sl → CR) : ∀ l : II, OkI c call l
  | .val a => okI_val (okE c call a)
  | .rg1 a => okI_rg1 (okE c call a)
  | .rg2 a b => okI_rg2 (okE c call a) (okE c call b)
  | .enm a => okI_enm (okE c call a)
  | .zip a b => okI_zip (okE c call a) (okE c call b)
end
end
end Ev

set_option linter.all false
set_option maxHeartbeats 4000000
/-! Statements. -/
namespace Ev
open PySem PySem.Spec PyProof.Rows L2
/-- from one state of a body to a later one -/
structure Go (K : Fg) (B : Bs) (σ : L2.St) (r : Env) (F H : Hp) (σ' : L2.St) (r' : Env) (F' H' : Hp) : Prop where
  st : StR K B F' H' σ' r'
  mono : Sub F F'
  frame : ∀ a o, H a = some o → ¬ Own σ r a → H' a = some o
  dom : ∀ a, H a ≠ none → H' a ≠ none
  fr : ∀ a, F' a ≠ none → F a ≠ none ∨ H a = none ∨ Own σ r a
  own : ∀ a, Own σ' r' a → Own σ r a ∨ H a = none
section
variable {K : Fg} {B : Bs} {σ σ' σ2 : L2.St} {r r' r1 r2 : Env} {F H F' H' F1 H1 F2 H2 : Hp}
theorem Go.refl (s : StR K B F H σ r) : Go K B σ r F H σ r F H := ⟨s, Sub.refl _, fun _ _ h _ => h, fun _ h => h, fun _ h => .inl h, fun _ h => .inl h⟩
theorem Post.go (p : Post K B σ r F H r' F' H') : Go K B σ r F H σ r' F' H' := ⟨p.st, p.mono, p.frame, p.dom, p.fr, fun a h => .inl (p.own a h)⟩
theorem AsnP.go {sl : List Nat} (a : AsnP K B F H sl σ r σ' r') : Go K B σ r F H σ' r' F H := ⟨a.st, Sub.refl _, fun _ _ h _ => h, fun _ h => h, fun _ h => .inl h, fun c h => .inl (a.own c h)⟩
theorem Go.trans (a : Go K B σ r F H σ' r' F' H') (b : Go K B σ' r' F' H' σ2 r2 F2 H2) : Go K B σ r F H σ2 r2 F2 H2 where
  st := b.st
  mono := a.mono.trans b.mono
  frame := fun c o h n => b.frame c o (a.frame c o h n) fun q => (a.own c q).elim n fun z => by rw [z] at h; cases h
  dom := fun c h => b.dom c (a.dom c h)
  fr := fun c h => by
    rcases b.fr c h with q | q | q
    · exact a.fr c q
    · exact .inr (.inl (Classical.byContradiction fun n => a.dom c n q))
    · exact .inr ((a.own c q).elim .inr .inl)
  own := fun c h => by
    rcases b.own c h with q | q
    · exact a.own c q
    · exact .inr (Classical.byContradiction fun n => a.dom c n q)
end
/-- what is wanted behind a statement -/
def EndR (K : Fg) (B : Bs) (D : Ends) (fl : Fl) (σ' : L2.St) (F' H' : Hp) : Prop :=
  match fl with
  | .nx => D.nx σ' H'
  | .brk => D.bk σ' H'
  | .cnt => D.ct σ' H'
  | .ret b v => ∀ x, TvR K B.h [] F' H' (if b = true then .f v else .d v) x → D.rt x H'
def RdS (K : Fg) (B : Bs) (g : Env → Res Fl) : TS := fun D σ H => ∃ F r, StR K B F H σ r ∧ ∃ fl r', g r = .ok fl r' ∧ ∀ σ' F' H', Go K B σ r F H σ' r' F' H' → EndR K B D fl σ' F' H'
theorem PS.imp {X : Cx} {e : Stmt} {t t' : TS} (h : PS X e t) (w : ∀ D σ H, t' D σ H → t D σ H) : PS X e t' := ⟨fun pins s σ H D I q => h.run pins s σ H D I (w D σ H q)⟩
theorem PSs.imp {X : Cx} {e : List Stmt} {t t' : TS} (h : PSs X e t) (w : ∀ D σ H, t' D σ H → t D σ H) : PSs X e t' := ⟨fun pins s σ H D I q => h.run pins s σ H D I (w D σ H q)⟩
def notComp : Expr → Bool
  | .ListComp _ _ _ _ => false
  | .SetComp _ _ _ _ => false
  | .DictComp _ _ _ _ _ => false
  | _ => true
theorem sw_no {e : Expr} {tg : Option Expr} {l : Nat} {env : PySem.Env} (h : notComp e = true) : swapsWith e tg l env = pure false := by
  cases e <;> first | rfl | (simp [notComp] at h)
section
variable {X : Cx} {B : Bs} {pos : Pos} {e c : Expr} {g : Env → Res TV} {gc : Env → Res Bool} {gs gt : Env → Res Fl}
theorem rs_pas : PS X (.Pass pos) (RdS X.K B fun r => .ok .nx r) := PS.imp ps_pass fun D σ H ⟨F, r, s, fl, r', e, k⟩ => by
  cases e
  exact k σ F H (Go.refl s)
theorem rs_brk : PS X (.Break pos) (RdS X.K B fun r => .ok .brk r) := PS.imp ps_break fun D σ H ⟨F, r, s, fl, r', e, k⟩ => by
  cases e
  exact k σ F H (Go.refl s)
theorem rs_cnt : PS X (.Continue pos) (RdS X.K B fun r => .ok .cnt r) := PS.imp ps_continue fun D σ H ⟨F, r, s, fl, r', e, k⟩ => by
  cases e
  exact k σ F H (Go.refl s)
theorem rs_rse {st : Stmt} {cl : Str} : PS X st (RdS X.K B fun r => .exc cl .none r) := PS.imp ps_never fun D σ H ⟨F, r, s, fl, r', e, k⟩ => by cases e
theorem rs_ex (hs : notComp e = true) (he : PE X e (RdE X.K B g)) : PS X (.Expr e pos) (RdS X.K B fun r => (g r).bind fun _ r1 => .ok .nx r1) :=
  PS.imp (ps_expr he (sw_no hs)) fun D σ H ⟨F, r, s, fl, r', q, k⟩ => by
    obtain ⟨x, r1, e1, q⟩ := bind_inv q
    cases q
    exact ⟨F, r, s, x, r', e1, fun xv F1 H1 p1 _ => k σ F1 H1 p1.go⟩
theorem rs_doc {x : Str} {j : Nat} {p2 : Pos} : PS X (.Expr (.Constant (.str x) j p2) pos) (RdS X.K B fun r => .ok .nx r) := PS.imp ps_doc fun D σ H ⟨F, r, s, fl, r', e, k⟩ => by
  cases e
  exact k σ F H (Go.refl s)
theorem rs_retN : PS X (.Return none pos) (RdS X.K B fun r => .ok (.ret false .none) r) := PS.imp ps_retN fun D σ H ⟨F, r, s, fl, r', e, k⟩ => by
  cases e
  exact k σ F H (Go.refl s) .non .non
theorem rs_ret (he : PE X e (RdE X.K B g)) : PS X (.Return (some e) pos) (RdS X.K B fun r => (g r).bind fun x r1 => match x with
      | .d v => .ok (.ret false v) r1
      | .f v => .ok (.ret true v) r1
      | .s i => match r1[i]? with
        | some (.own d) => .ok (.ret true d) r1
        | _ => .stuck) := PS.imp (ps_ret he) fun D σ H ⟨F, r, s, fl, r', q, k⟩ => by
  obtain ⟨x, r1, e1, q⟩ := bind_inv q
  refine ⟨F, r, s, x, r1, e1, fun xv F1 H1 p1 t1 => ?_⟩
  split at q
  · cases q
    exact k σ F1 H1 p1.go xv t1
  · cases q
    obtain ⟨p, o, h1, h2, h3, h4, h5⟩ := t1
    exact k σ F1 H1 p1.go xv ⟨p, o, h1, h2, h3, h4, Classical.byContradiction fun n => s.dom p n h5⟩
  · rename_i i
    split at q
    · rename_i d hd
      cases q
      obtain ⟨a, o, h1, h2, h3, h4⟩ := p1.st.obj i d (.inl hd)
      have h5 : σ[i]? = some (some xv) := t1
      rw [h1] at h5
      cases h5
      exact k σ F1 H1 p1.go _ ⟨a, o, rfl, h2, h3, h4, p1.st.new i d a hd h1⟩
    · cases q
theorem rs_if {a b : List Stmt} (hc : PT X c (RdC X.K B gc)) (ha : PSs X a (RdS X.K B gs)) (hb : PSs X b (RdS X.K B gt)) : PS X (.If c a b pos) (RdS X.K B fun r => (gc r).bind fun t r1 => match t with
      | true => gs r1
      | false => gt r1) := PS.imp (ps_if hc ha hb) fun D σ H ⟨F, r, s, fl, r', q, k⟩ => by
  obtain ⟨x, r1, e1, q⟩ := bind_inv q
  refine ⟨F, r, s, x, r1, e1, fun F1 H1 p1 => ?_⟩
  cases x with
  | true =>
    rw [if_pos rfl]
    exact ⟨F1, r1, p1.st, fl, r', q, fun σ' F' H' g => k σ' F' H' (p1.go.trans g)⟩
  | false =>
    rw [if_neg (by decide)]
    exact ⟨F1, r1, p1.st, fl, r', q, fun σ' F' H' g => k σ' F' H' (p1.go.trans g)⟩
theorem rs_nil : PSs X [] (RdS X.K B fun r => .ok .nx r) := PSs.imp pss_nil fun D σ H ⟨F, r, s, fl, r', e, k⟩ => by
  cases e
  exact k σ F H (Go.refl s)
theorem EndR.up {K : Fg} {D : Ends} {n : L2.St → Hp → Prop} {fl : Fl} {σ' : L2.St} {F' H' : Hp} (h : EndR K B D fl σ' F' H') (hn : fl ≠ .nx) : EndR K B { D with nx := n } fl σ' F' H' := by
  cases fl with
  | nx => exact absurd rfl hn
  | brk => exact h
  | cnt => exact h
  | ret b v => exact h
theorem rs_cons {st : Stmt} {sts : List Stmt} (h1 : PS X st (RdS X.K B gs)) (h2 : PSs X sts (RdS X.K B gt)) : PSs X (st :: sts) (RdS X.K B fun r => match gs r with
    | .ok .nx r1 => gt r1
    | o => o) := PSs.imp (pss_cons h1 h2) fun D σ H ⟨F, r, s, fl, r', q, k⟩ => by
  dsimp only at q
  split at q
  · rename_i r1 e1
    refine ⟨F, r, s, .nx, r1, e1, fun σ' F' H' g => ?_⟩
    exact ⟨F', r1, g.st, fl, r', q, fun σ2 F2 H2 g2 => k σ2 F2 H2 (g.trans g2)⟩
  · rename_i hn
    have hne : fl ≠ .nx := fun z => by subst z; exact hn r' q
    exact ⟨F, r, s, fl, r', q, fun σ' F' H' g => (k σ' F' H' g).up hne⟩
theorem rs_whl {body : List Stmt} {W : Nat} (hx : PassesOwn (model X.prog X.w) X.A X.env X.xe) (hc : PT X c (RdC X.K B gc)) (hb : PSs X body (RdS X.K B gs)) : PS X (.While c body [] pos) (RdS X.K B fun r => whileN gc gs W r) :=
  PS.imp (ps_while hx hc hb) fun D σ H ⟨F, r, s, fl, rE, q, k⟩ => by
    refine ⟨fun m σ' H' => ∃ F' rr, Go X.K B σ r F H σ' rr F' H' ∧ whileN gc gs m rr = .ok fl rE, ⟨W, F, r, Go.refl s, q⟩, ?_⟩
    rintro m σ1 H1 ⟨F1, r1, g1, q1⟩
    cases m with
    | zero => cases q1
    | succ m =>
      unfold whileN at q1
      obtain ⟨t, r2, e2, q1⟩ := bind_inv q1
      refine ⟨F1, r1, g1.st, t, r2, e2, fun F2 H2 p2 => ?_⟩
      have g2 := g1.trans p2.go
      cases t with
      | false =>
        cases q1
        show if false = true then _ else D.nx σ1 H2
        rw [if_neg (by decide)]
        exact k σ1 F2 H2 g2
      | true =>
        dsimp only at q1
        dsimp only
        rw [if_pos rfl]
        refine ⟨fun σ' H' => ∃ F' rr, Go X.K B σ r F H σ' rr F' H' ∧ whileN gc gs m rr = .ok fl rE, fun σ' H' z => ⟨m, Nat.lt_succ_self _, z⟩, F2, r2, p2.st, ?_⟩
        split at q1
        · rename_i r3 e3
          exact ⟨_, _, e3, fun σ' F' H' g => ⟨F', r3, g2.trans g, q1⟩⟩
        · rename_i r3 e3
          exact ⟨_, _, e3, fun σ' F' H' g => ⟨F', r3, g2.trans g, q1⟩⟩
        · rename_i r3 e3
          cases q1
          exact ⟨_, _, e3, fun σ' F' H' g => k σ' F' H' (g2.trans g)⟩
        · rename_i b v r3 e3
          cases q1
          exact ⟨_, _, e3, fun σ' F' H' g => k σ' F' H' (g2.trans g)⟩
        · cases q1
        · cases q1
theorem rs_for {tg iter : Expr} {t : IT} {gi : Env → Res (List D)} {body : List Stmt} (hx : PassesOwn (model X.prog X.w) X.A X.env X.xe) (hcm : X.calm = true) (hi : PI X tg iter (RdI X.K B gi)) (hg : PG X tg (RdG X.K B t)) (hb : PSs X body (RdS X.K B gs)) (hs : ∀ x, foldedSetIterable iter X.env x = pure x) :
    PS X (.For tg iter body [] pos) (RdS X.K B fun r => (gi r).bind fun xs r1 => forL (fun x r2 => (asn t (.d x) r2).bind fun _ r3 => gs r3) xs r1) :=
  PS.imp (ps_for hx hcm hi hg hb hs) fun D σ H ⟨F, r, s, fl, rE, q, k⟩ => by
    obtain ⟨xs, r1, e1, q⟩ := bind_inv q
    refine ⟨F, r, s, xs, r1, e1, fun J F1 H1 p1 wk => ?_⟩
    refine ⟨fun i m σ' H' => m = xs.length - i ∧ i ≤ xs.length ∧ ∃ F' rr, Go X.K B σ r F H σ' rr F' H' ∧ Sub F1 F' ∧ forL (fun x r2 => (asn t (.d x) r2).bind fun _ r3 => gs r3) (xs.drop i) rr = .ok fl rE, ⟨xs.length, by simp, Nat.zero_le _, F1, r1, p1.go, Sub.refl _, q⟩, ?_⟩
    rintro i m σ2 H2 ⟨rfl, hi, F2, r2, g2, sb2, q2⟩
    by_cases hlt : i < xs.length
    · have hd : xs.drop i = xs[i] :: xs.drop (i + 1) := List.drop_eq_getElem_cons hlt
      rw [hd] at q2
      unfold forL at q2
      refine .inr ⟨wk.goes i H2 hlt (sb2.trans g2.st.sub), fun σ' H' => ∃ F' rr, Go X.K B σ r F H σ' rr F' H' ∧ Sub F1 F' ∧ forL (fun x r2 => (asn t (.d x) r2).bind fun _ r3 => gs r3) (xs.drop (i + 1)) rr = .ok fl rE,
        fun σ' H' z => ⟨xs.length - (i + 1), by omega, rfl, hlt, z⟩, fun x H' y => ?_⟩
      obtain ⟨d, hd2, out⟩ := wk.yields i H2 x H' hlt (sb2.trans g2.st.sub) y
      have ed : d = xs[i] := by
        rw [List.getElem?_eq_getElem hlt] at hd2
        exact (Option.some.inj hd2).symm
      subst ed
      obtain ⟨F3, p3, t3⟩ := (out.mono sb2).post g2.st
      have g3 := g2.trans p3.go
      have sb3 := sb2.trans p3.mono
      have key : ∀ (f2 : Fl) (r5 : Env), ((asn t (.d xs[i]) r2).bind fun _ r3 => gs r3) = .ok f2 r5 → (∀ σ' F' H'', Go X.K B σ r F H σ' r5 F' H'' → Sub F1 F' → EndR X.K B { D with nx := fun σ' H' => ∃ F' rr, Go X.K B σ r F H σ' rr F' H' ∧ Sub F1 F' ∧ forL (fun x r2 => (asn t (.d x) r2).bind fun _ r3 => gs r3) (xs.drop (i + 1)) rr = .ok fl rE, ct := fun σ' H' => ∃ F' rr, Go X.K B σ r F H σ' rr F' H' ∧ Sub F1 F' ∧ forL (fun x r2 => (asn t (.d x) r2).bind fun _ r3 => gs r3) (xs.drop (i + 1)) rr = .ok fl rE, bk := D.nx } f2 σ' F' H'') →
          RdG X.K B t x σ2 H' fun σ2 H2 => RdS X.K B gs { D with nx := fun σ' H' => ∃ F' rr, Go X.K B σ r F H σ' rr F' H' ∧ Sub F1 F' ∧ forL (fun x r2 => (asn t (.d x) r2).bind fun _ r3 => gs r3) (xs.drop (i + 1)) rr = .ok fl rE, ct := fun σ' H' => ∃ F' rr, Go X.K B σ r F H σ' rr F' H' ∧ Sub F1 F' ∧ forL (fun x r2 => (asn t (.d x) r2).bind fun _ r3 => gs r3) (xs.drop (i + 1)) rr = .ok fl rE, bk := D.nx } σ2 H2 := fun f2 r5 ef kk => by
        obtain ⟨_, r4, e4, ef⟩ := bind_inv ef
        refine ⟨F3, r2, xs[i], p3.st, t3, r4, e4, fun σ4 a4 => ⟨F3, r4, a4.st, f2, r5, ef, fun σ5 F5 H5 g5 => ?_⟩⟩
        exact kk σ5 F5 H5 ((g3.trans a4.go).trans g5) (sb3.trans g5.mono)
      split at q2
      · rename_i r5 e5
        exact key _ _ e5 fun σ' F' H'' g sb => ⟨F', r5, g, sb, q2⟩
      · rename_i r5 e5
        exact key _ _ e5 fun σ' F' H'' g sb => ⟨F', r5, g, sb, q2⟩
      · rename_i r5 e5
        cases q2
        exact key _ _ e5 fun σ' F' H'' g sb => k σ' F' H'' g
      · rename_i b v r5 e5
        cases q2
        exact key _ _ e5 fun σ' F' H'' g sb => k σ' F' H'' g
      · cases q2
      · cases q2
    · have ei : i = xs.length := by omega
      subst ei
      rw [List.drop_length] at q2
      cases q2
      exact .inl ⟨wk.stops H2 (sb2.trans g2.st.sub), k σ2 F2 H2 g2⟩
end
end Ev

set_option linter.all false
set_option maxHeartbeats 4000000
/-! Assignments. -/
namespace Ev
open PySem PySem.Spec PyProof.Rows L2
section
variable {K : Fg} {B : Bs} {σ : L2.St} {r r1 r2 : Env} {F H F1 H1 : Hp}
theorem slot_some {s : Sl} {i : Nat} (h : r1[i]? = some s) (e : r1.length = r2.length) : ∃ s', r2[i]? = some s' := by
  have h1 := (List.getElem?_eq_some_iff.mp h).1
  rw [e] at h1
  exact ⟨r2[i], by simp [h1]⟩
/-- a name's store, whatever is stored -/
theorem asn1_go {x : TV} {v : V} {i : Nat} {m : Bool} (s : StR K B F H σ r) (p : Post K B σ r F H r1 F1 H1) (t : TvR K H σ F1 H1 x v) (e : asn1 i m x r1 = .ok () r2) : ∃ F2, Go K B σ r F H (σ.set i (some v)) r2 F2 H1 := by
  unfold asn1 at e
  split at e
  · cases e
  · cases e
  · rename_i sl nb hs
    cases m with
    | true =>
      rw [if_pos rfl] at e
      split at e
      · rename_i d
        cases e
        obtain ⟨q, o, rfl, e1, e2, e3, e4⟩ := t
        have no : ¬ Own σ r1 q := fun z => p.ne s q z e4
        obtain ⟨st', ow'⟩ := asn_own p.st e1 e2 e3 no (Classical.byContradiction fun n => s.dom q n e4) hs
        exact ⟨F1, st', p.mono, p.frame, p.dom, p.fr, fun a h => (ow' a h).elim (fun z => .inl (p.own a z)) fun z => .inr (z ▸ e4)⟩
      · cases e
    | false =>
      rw [if_neg (by decide)] at e
      split at e
      · rename_i d r' hsol
        cases e
        obtain ⟨F2, p2, hv, _⟩ := solid_post s p t hsol
        obtain ⟨s', hs'⟩ := slot_some hs (p.st.len.symm.trans p2.st.len)
        exact ⟨F2, asn_val p2.st hv hs', p2.mono, p2.frame, p2.dom, p2.fr, fun a h => .inl (p2.own a (own_sub h))⟩
      · cases e
end
section
variable {X : Cx} {B : Bs} {pos : Pos} {e : Expr} {g : Env → Res TV}
theorem set_rd {i : Nat} {m : Bool} {D : Ends} {σ : L2.St} {H : Hp} (q : RdS X.K B (fun r => (g r).bind fun x r1 => (asn (.n i m) x r1).bind fun _ r2 => .ok .nx r2) D σ H) : RdE X.K B g σ H fun x H1 => gName i x σ H1 D.nx := by
  obtain ⟨F, r, s, fl, r', q, k⟩ := q
  obtain ⟨x, r1, e1, q⟩ := bind_inv q
  obtain ⟨_, r2, e2, q⟩ := bind_inv q
  cases q
  refine ⟨F, r, s, x, r1, e1, fun v F1 H1 p1 t1 => ?_⟩
  obtain ⟨F2, g2⟩ := asn1_go s p1 t1 e2
  exact k _ F2 H1 g2
theorem rs_set {i : Nat} {x : Str} {m : Bool} {p2 : Pos} (hN : X.N.Nodup) (hi : X.N[i]? = some x) (hx : Loc X.env.scope x) (hf : X.fn x = true ∨ X.env.scope.names.lookup x = some .local) (hs : swapsWith e (some (.Name x p2)) pos.line X.env = pure false) (he : PE X e (RdE X.K B g)) :
    PS X (.Assign [.Name x p2] e pos) (RdS X.K B fun r => (g r).bind fun x r1 => (asn (.n i m) x r1).bind fun _ r2 => .ok .nx r2) :=
  PS.imp (ps_set hN hi hx he hs hf) fun D σ H q => set_rd q
/-- [..] under a name on one line changes places with the block's value -/
def swB (sc scope : Scope) (y : Str) (py pos : Pos) : Bool := isLoc sc y && ((py.line == pos.line) && !(scope.names.any fun (n, k) => n == y && (k == .local || k == .cell)))
theorem sw_eq {elt : Expr} {gs : List Comprehension} {scope : Scope} {p py : Pos} {y : Str} {l : Nat} {env : PySem.Env} (hk : env.scope.kind = .function) : swapsWith (.ListComp elt gs scope p) (some (.Name y py)) l env = pure (swB env.scope scope y py p) := by
  have hb : env.blockKind = .function := by unfold Env.blockKind; rw [hk]; rfl
  have e1 : (env.kindOf y == some .local) = isLoc env.scope y := by
    have e0 : env.kindOf y = env.scope.names.lookup y := rfl
    rw [e0]
    unfold isLoc
    split
    · rename_i q; rw [q]; rfl
    · rename_i q
      cases z : env.scope.names.lookup y with
      | none => rfl
      | some kd =>
        cases kd <;> first | rfl | exact absurd z q
  show pure (env.blockKind == .function && env.kindOf y == some .local && py.line == p.line && !(scope.names.any fun (n, k) => n == y && (k == .local || k == .cell))) = _
  rw [hb, e1]
  unfold swB
  rw [Bool.and_assoc, Bool.and_assoc]
  rfl
theorem rs_setLc {i : Nat} {x : Str} {m : Bool} {p2 p3 : Pos} {tg iter elt : Expr} {ifs : List Expr} {scope : Scope} {own : List (Str × Nat)} {t : IT} {gi : Env → Res (List D)} {gt : Env → Res Bool} {ge : Env → Res TV} (hk : X.env.scope.kind = .function) (hi : X.N[i]? = some x) (hx : Loc X.env.scope x)
    (hf : X.fn x = true ∨ X.env.scope.names.lookup x = some .local) (h : Lc1 X B tg iter elt ifs scope own t gi gt ge) :
    PS X (.Assign [.Name x p2] (.ListComp elt [⟨tg, iter, ifs, 0⟩] scope p3) pos) (RdS X.K B fun r => (cm1G own t gi gt ge r).bind fun x r1 => (asn (.n i m) x r1).bind fun _ r2 => .ok .nx r2) := by
  have sw := sw_eq (elt := elt) (gs := [⟨tg, iter, ifs, 0⟩]) (scope := scope) (p := p3) (py := p2) (y := x) (l := pos.line) hk
  cases q : swB X.env.scope scope x p2 p3 with
  | false =>
    rw [q] at sw
    exact rs_set h.nd hi hx hf sw h.pe
  | true =>
    rw [q] at sw
    have hl : X.env.scope.names.lookup x = some .local := by
      unfold swB at q
      rw [Bool.and_eq_true] at q
      exact isLoc_ok q.1
    exact PS.imp (ps_setLc h.calm h.nd hi hl sw h.hi h.ok h.hg h.ht h.he h.hs) fun D σ H q => h.imp _ _ _ (set_rd q)
theorem rs_setLc2 {i : Nat} {x : Str} {m : Bool} {p2 p3 : Pos} {tg iter elt tg2 iter2 : Expr} {ifs ifs2 : List Expr} {scope : Scope} {own : List (Str × Nat)} {own2 : List Nat} {t t2 : IT} {gi gi2 : Env → Res (List D)} {gt gt2 : Env → Res Bool} {ge : Env → Res TV} (hk : X.env.scope.kind = .function) (hi : X.N[i]? = some x) (hx : Loc X.env.scope x)
    (hf : X.fn x = true ∨ X.env.scope.names.lookup x = some .local) (h : Lc2 X B tg iter elt tg2 iter2 ifs ifs2 scope own own2 t t2 gi gi2 gt gt2 ge) :
    PS X (.Assign [.Name x p2] (.ListComp elt [⟨tg, iter, ifs, 0⟩, ⟨tg2, iter2, ifs2, 0⟩] scope p3) pos) (RdS X.K B fun r => (cm2G own own2 t t2 gi gi2 gt gt2 ge r).bind fun x r1 => (asn (.n i m) x r1).bind fun _ r2 => .ok .nx r2) := by
  have sw := sw_eq (elt := elt) (gs := [⟨tg, iter, ifs, 0⟩, ⟨tg2, iter2, ifs2, 0⟩]) (scope := scope) (p := p3) (py := p2) (y := x) (l := pos.line) hk
  cases q : swB X.env.scope scope x p2 p3 with
  | false =>
    rw [q] at sw
    exact rs_set h.one.nd hi hx hf sw h.pe
  | true =>
    rw [q] at sw
    have hl : X.env.scope.names.lookup x = some .local := by
      unfold swB at q
      rw [Bool.and_eq_true] at q
      exact isLoc_ok q.1
    exact PS.imp (ps_setLc2 h.one.calm h.one.nd hi hl sw h.one.hi h.one.ok h.hv h.one.hg h.one.ht h.hi2 h.hg2 h.ht2 h.one.he h.one.hs h.hs2) fun D σ H q => h.imp _ _ _ (set_rd q)
theorem sws_no {t : Expr} {l : Nat} {env : PySem.Env} (h : notComp e = true) : swapsWithSole [t] e l env = pure false := by
  show swapsWith e (some t) l env = pure false
  exact sw_no h
def notTup : Expr → Bool
  | .Tuple _ _ _ => false
  | _ => true
theorem stores_no {ts : List Expr} {kt : Nat} {p2 : Pos} {env : PySem.Env} (h : notTup e = true) : swappedStores [.Tuple ts kt p2] e env = pure none := by
  cases e <;> first | rfl | (simp [notTup] at h)
theorem rp_of_tup {K : Fg} {B : Bs} {H0 : Hp} {σ : L2.St} {r : Env} {F H : Hp} {t : TV} {v : V} {xs : List D} (s : StR K B F H σ r) (h : TvR K H0 σ F H t v) (e : deref r t = some (.tuple xs)) : Rp K F v (.tuple xs) := by
  obtain ⟨a, ys, rfl, h1, h2⟩ := (deref_rq s h e).tup
  exact .tup h1 h2
/-- (a, b), c = a value -/
theorem rs_tup {es : List Expr} {kt : Nat} {p2 : Pos} {l : List IT} (hs : notComp e = true) (ht : notTup e = true) (he : PE X e (RdE X.K B g)) (hg : PG X (.Tuple es kt p2) (RdG X.K B (.t l))) :
    PS X (.Assign [.Tuple es kt p2] e pos) (RdS X.K B fun r => (g r).bind fun x r1 => (asn (.t l) x r1).bind fun _ r2 => .ok .nx r2) :=
  PS.imp (ps_asg he hg (sws_no hs) (stores_no ht)) fun D σ H ⟨F, r, s, fl, r', q, k⟩ => by
    obtain ⟨x, r1, e1, q⟩ := bind_inv q
    obtain ⟨_, r2, e2, q⟩ := bind_inv q
    cases q
    refine ⟨F, r, s, x, r1, e1, fun v F1 H1 p1 t1 => ?_⟩
    unfold asn at e2
    split at e2
    · rename_i xs hd
      exact ⟨F1, r1, .tuple xs, p1.st, rp_of_tup p1.st t1 hd, r', e2, fun σ' ap => k σ' F1 H1 (p1.go.trans ap.go)⟩
    · cases e2
/-- x[k] = value -/
theorem rs_sto {i : Nat} {x : Str} {k : Expr} {p2 p3 : Pos} {gk : Env → Res TV} (hN : X.N[i]? = some x) (hv : Vis X.env.scope x) (hd : (x == ("__debug__" : Str)) = false) (hcd : (x == ("__classdict__" : Str)) = false) (hs : notComp e = true) (hk : plainIxB k = true)
    (he : PE X e (RdE X.K B g)) (hkk : PE X k (RdE X.K B gk)) :
    PS X (.Assign [.Subscript (.Name x p2) k p3] e pos) (RdS X.K B fun r => (g r).bind fun x r1 => (solidR r1 x).bind fun v r2 => match mutAt r2 i with
      | some _ => (gk r2).bind fun y r3 =>
        match mutAt r3 i, deref r3 y with
        | some (.list xs), some (.int j) => match ixN xs.length j with
          | some m => .ok .nx (setAt r3 i (.list (xs.set m v)))
          | none => .stuck
        | _, _ => .stuck
      | none => .stuck) := by
  have hpa : ∀ v, assign (.Subscript (.Name x p2) k p3) X.env v = (do
      let ov ← holding [v] (eval (.Name x p2) X.env)
      let iv ← holding [v, ov] (eval k X.env)
      standAt p3
      holding [v, ov, iv] (setItem ov iv v)
      release [v, ov, iv] []) := by
    intro v
    cases k <;> first | rfl | (simp [plainIxB] at hk)
  have hsw : swappedStores [.Subscript (.Name x p2) k p3] e X.env = pure none := by
    cases e <;> rfl
  refine PS.imp (ps_asg he (pg_sub (pe_var hN hv hd hcd) hkk set_list hpa) (sws_no hs) hsw) fun D σ H ⟨F, r, s, fl, r', q, kk⟩ => ?_
  obtain ⟨xv, r1, e1, q⟩ := bind_inv q
  obtain ⟨v, r2, e2, q⟩ := bind_inv q
  refine ⟨F, r, s, xv, r1, e1, fun vv F1 H1 p1 t1 => ?_⟩
  obtain ⟨F2, pp2, h2, _⟩ := solid_post s p1 t1 (solidR_ok e2)
  split at q
  · rename_i d0 z0
    obtain ⟨y, r3, e3, q⟩ := bind_inv q
    obtain ⟨a, o, hσ, _⟩ := pp2.st.obj i d0 (mutAt_inv z0)
    refine ⟨_, hσ, F2, r2, pp2.st, y, r3, e3, fun yv F3 H3 p3 t3 => ?_⟩
    split at q
    · rename_i xs j z1 z2
      split at q
      · rename_i m hm
        cases q
        obtain ⟨a', o', hσ', ho, hf, hob⟩ := p3.st.obj i _ (mutAt_inv z1)
        rw [hσ] at hσ'
        cases hσ'
        obtain ⟨ys, rfl, rl⟩ := hob
        refine ⟨a, ys, j, m, rfl, (deref_rq p3.st t3 z2).int, ho, ?_, ?_⟩
        · rw [rl.length]
          exact hm
        · have hl : ObR X.K F3 (.lst (ys.set m vv)) (.list (xs.set m v)) := ⟨_, rfl, rl.set m (h2.mono p3.mono)⟩
          have st' := set_st (d := .list (xs.set m v)) p3.st (mutAt_inv z1) hσ hl
          have pp := pp2.trans p3
          have own_a : Own σ r a := pp.own a ⟨i, _, mutAt_inv z1, hσ⟩
          refine kk σ F3 _ ⟨st', pp.mono, fun b u hb hn => ?_, fun b hb => ?_, pp.fr, fun b hb => .inl (pp.own b (own_setAt hb))⟩
          · rw [upd_ne (fun z => hn (by rw [z]; exact own_a))]
            exact pp.frame b u hb hn
          · by_cases z : b = a
            · subst z; rw [upd_same]; simp
            · rw [upd_ne z]; exact pp.dom b hb
      · cases q
    · cases q
  · cases q
/-- x.append(value) -/
theorem rs_app {i : Nat} {x : Str} {p2 ap cp : Pos} (hN : X.N[i]? = some x) (hv : Vis X.env.scope x) (hd : (x == ("__debug__" : Str)) = false) (hcd : (x == ("__classdict__" : Str)) = false) (hl : (ap.endLine == cp.line) = true) (hp : plainE e = true)
    (he : PE X e (RdE X.K B g)) :
    PS X (.Expr (.Call (.Attribute (.Name x p2) "append" ap) [e] [] cp) pos) (RdS X.K B fun r => match mutAt r i with
    | some (.list _) => (g r).bind fun x r1 => (solidR r1 x).bind fun v r2 => match mutAt r2 i with
      | some (.list xs) => if xs.length < SZ then .ok .nx (setAt r2 i (.list (xs ++ [v]))) else .stuck
      | _ => .stuck
    | _ => .stuck) := by
  refine PS.imp (ps_expr (pe_bm PySem.F.plainAttrs_list PySem.F.slot_list_append PySem.F.type_list_append mt_append (pe_var hN hv hd hcd) (pa_cons he pa_nil (star_cons hp)) rfl (by rw [back_one hp]; rfl) hl (star_cons hp) rfl)) fun D σ H ⟨F, r, s, fl, r', q, kk⟩ => ?_
  dsimp only at q
  split at q
  · rename_i xs0 z0
    obtain ⟨xv, r1, e1, q⟩ := bind_inv q
    obtain ⟨v, r2, e2, q⟩ := bind_inv q
    obtain ⟨a, o, hσ, ho0, _, hob0⟩ := s.obj i _ (mutAt_inv z0)
    obtain ⟨ys0, rfl, _⟩ := hob0
    refine ⟨_, hσ, .inl ⟨rfl, ys0, SqL.of ho0⟩, F, r, s, xv, r1, e1, fun vv F1 H1 p1 t1 => ?_⟩
    obtain ⟨F2, pp, h2, _⟩ := solid_post s p1 t1 (solidR_ok e2)
    split at q
    · rename_i xs z1
      split at q
      · rename_i wl
        cases q
        obtain ⟨a', o', hσ', ho, hf, hob⟩ := pp.st.obj i _ (mutAt_inv z1)
        rw [hσ] at hσ'
        cases hσ'
        obtain ⟨ys, rfl, rl⟩ := hob
        refine ⟨a, ys, vv, rfl, rfl, ho, by rw [rl.length, ← szl]; exact wl, ?_⟩
        have hl : ObR X.K F2 (.lst (ys ++ [vv])) (.list (xs ++ [v])) := ⟨_, rfl, rl.append (.cons h2 .nil)⟩
        have st' := set_st (d := .list (xs ++ [v])) pp.st (mutAt_inv z1) hσ hl
        have own_a : Own σ r a := pp.own a ⟨i, _, mutAt_inv z1, hσ⟩
        refine kk σ F2 _ ⟨st', pp.mono, fun b u hb hn => ?_, fun b hb => ?_, pp.fr, fun b hb => .inl (pp.own b (own_setAt hb))⟩
        · rw [upd_ne (fun z => hn (by rw [z]; exact own_a))]
          exact pp.frame b u hb hn
        · by_cases z : b = a
          · subst z; rw [upd_same]; simp
          · rw [upd_ne z]; exact pp.dom b hb
      · cases q
    · cases q
  · cases q
end
end Ev

set_option linter.all false
set_option maxHeartbeats 4000000
/-! a, b = x, y -/
namespace Ev
open PySem PySem.Spec PyProof.Rows L2
/-- values, the new objects at ps -/
inductive TvL (K : Fg) (F H : Hp) : List TV → List V → List Addr → Prop
  | nil : TvL K F H [] [] []
  | d {d : D} {v : V} {ts : List TV} {vs : List V} {ps : List Addr} : Rp K F v d → TvL K F H ts vs ps → TvL K F H (.d d :: ts) (v :: vs) ps
  | f {d : D} {p : Addr} {o : HO} {ts : List TV} {vs : List V} {ps : List Addr} : H p = some o → F p = none → ObR K F o d → p ∉ ps → TvL K F H ts vs ps → TvL K F H (.f d :: ts) (.ref p :: vs) (p :: ps)
theorem TvL.len {K : Fg} {F H : Hp} : ∀ {ts : List TV} {vs : List V} {ps : List Addr}, TvL K F H ts vs ps → vs.length = ts.length
  | _, _, _, .nil => rfl
  | _, _, _, .d _ r => by rw [List.length_cons, List.length_cons, r.len]
  | _, _, _, .f _ _ _ _ r => by rw [List.length_cons, List.length_cons, r.len]
theorem TvL.keep {K : Fg} {F H F' H' : Hp} (m : Sub F F') : ∀ {ts : List TV} {vs : List V} {ps : List Addr}, TvL K F H ts vs ps → (∀ p ∈ ps, ∀ o, H p = some o → H' p = some o) → (∀ p ∈ ps, F' p = none) → TvL K F' H' ts vs ps
  | _, _, _, .nil, _, _ => .nil
  | _, _, _, .d h r, a, b => .d (h.mono m) (r.keep m a b)
  | _, _, _, .f h1 h2 h3 h4 r, a, b => .f (a _ List.mem_cons_self _ h1) (b _ List.mem_cons_self) (h3.mono m) h4 (r.keep m (fun p hp => a p (List.mem_cons_of_mem _ hp)) fun p hp => b p (List.mem_cons_of_mem _ hp))
theorem TvL.fnone {K : Fg} {F H : Hp} : ∀ {ts : List TV} {vs : List V} {ps : List Addr}, TvL K F H ts vs ps → ∀ p ∈ ps, F p = none
  | _, _, _, .nil, p, hp => nomatch hp
  | _, _, _, .d _ r, p, hp => r.fnone p hp
  | _, _, _, .f _ h2 _ _ r, p, hp => by
    rcases List.mem_cons.mp hp with rfl | hp
    · exact h2
    · exact r.fnone p hp
def RdF (K : Fg) (B : Bs) (g : Env → Res (List TV)) : TA := fun σ H Q => ∃ F r, StR K B F H σ r ∧ ∃ t r', g r = .ok t r' ∧ ∀ xs ps F' H', Post K B σ r F H r' F' H' → TvL K F' H' t xs ps → (∀ p ∈ ps, H p = none) → Q xs H'
section
variable {X : Cx} {B : Bs} {pos : Pos} {e a : Expr} {f g : Env → Res TV}
theorem rf_nil : PA X [] (RdF X.K B fun r => .ok [] r) := PA.imp pa_nil fun σ H Q ⟨F, r, s, t, r', e, k⟩ => by
  cases e
  exact k [] [] F H (Post.refl s) .nil fun p hp => nomatch hp
theorem rf_cons {es : List Expr} {fa : Env → Res (List TV)} (ha : PE X a (RdE X.K B f)) (hr : PA X es (RdF X.K B fa)) (hs : starEach (a :: es) X.env = (false, eval a X.env) :: starEach es X.env) :
    PA X (a :: es) (RdF X.K B fun r => (f r).bind fun x r1 => match x with
      | .f v => (fa r1).bind fun vs r3 => .ok (.f v :: vs) r3
      | x => (solidR r1 x).bind fun v r2 => (fa r2).bind fun vs r3 => .ok (.d v :: vs) r3) := by
  refine PA.imp (pa_cons ha hr hs) fun σ H Q ⟨F, r, s, t, r', e, k⟩ => ?_
  obtain ⟨x, r1, e1, e⟩ := bind_inv e
  refine ⟨F, r, s, x, r1, e1, fun xv F1 H1 p1 t1 => ?_⟩
  have sol : ∀ (e : ((solidR r1 x).bind fun v r2 => (fa r2).bind fun vs r3 => Res.ok (TV.d v :: vs) r3) = .ok t r'), RdF X.K B fa σ H1 fun xs H' => Q (xv :: xs) H' := fun e => by
    obtain ⟨v, r2, e2, e⟩ := bind_inv e
    obtain ⟨vs, r3, e3, e⟩ := bind_inv e
    cases e
    obtain ⟨F2, p2, h2, m2⟩ := solid_post s p1 t1 (solidR_ok e2)
    exact ⟨F2, r2, p2.st, vs, r', e3, fun xs ps F3 H3 p3 h3 n3 => k (xv :: xs) ps F3 H3 (p2.trans p3) (.d (h2.mono p3.mono) h3) fun p hp => Classical.byContradiction fun n => p2.dom p n (n3 p hp)⟩
  split at e
  · obtain ⟨vs, r3, e3, e⟩ := bind_inv e
    cases e
    refine ⟨F1, r1, p1.st, vs, r', e3, fun xs ps F3 H3 p3 h3 n3 => ?_⟩
    have t3 := t1.keep p3 (p1.ne s)
    obtain ⟨q, o, rfl, q1, q2, q3, q4⟩ := t3
    obtain ⟨q', o', z, z1, _⟩ := t1
    cases z
    refine k (.ref q :: xs) (q :: ps) F3 H3 (p1.trans p3) (.f q1 q2 q3 (fun hp => ?_) h3) fun p hp => ?_
    · rw [n3 q hp] at z1; cases z1
    · rcases List.mem_cons.mp hp with rfl | hp
      · exact q4
      · exact Classical.byContradiction fun n => p1.dom p n (n3 p hp)
  · exact sol e
end
/-- behind stores of values, the new objects at ps -/
structure AsT (K : Fg) (B : Bs) (H : Hp) (ps : List Addr) (σ : L2.St) (r : Env) (F : Hp) (σ' : L2.St) (r' : Env) (F' : Hp) : Prop where
  st : StR K B F' H σ' r'
  mono : Sub F F'
  fr : ∀ a, F' a ≠ none → F a ≠ none ∨ a ∈ ps
  own : ∀ a, Own σ' r' a → Own σ r a ∨ a ∈ ps
section
variable {K : Fg} {B : Bs} {σ σ' σ2 : L2.St} {r r' r2 : Env} {F H F' F2 : Hp}
theorem AsT.trans {ps qs : List Addr} (a : AsT K B H ps σ r F σ' r' F') (b : AsT K B H qs σ' r' F' σ2 r2 F2) : AsT K B H (ps ++ qs) σ r F σ2 r2 F2 :=
  ⟨b.st, a.mono.trans b.mono, fun c h => (b.fr c h).elim (fun z => (a.fr c z).imp id fun q => List.mem_append_left _ q) fun z => .inr (List.mem_append_right _ z),
    fun c h => (b.own c h).elim (fun z => (a.own c z).imp id fun q => List.mem_append_left _ q) fun z => .inr (List.mem_append_right _ z)⟩
theorem AsT.refl (s : StR K B F H σ r) : AsT K B H [] σ r F σ r F := ⟨s, Sub.refl _, fun _ h => .inl h, fun _ h => .inl h⟩
theorem AsT.go {ps : List Addr} (a : AsT K B H ps σ r F σ' r' F') {σ0 : L2.St} {r0 : Env} {F0 H0 : Hp} (p : Go K B σ0 r0 F0 H0 σ r F H) (h : ∀ q ∈ ps, H0 q = none) : Go K B σ0 r0 F0 H0 σ' r' F' H :=
  ⟨a.st, p.mono.trans a.mono, p.frame, p.dom, fun c hc => (a.fr c hc).elim (p.fr c) fun z => .inr (.inl (h c z)), fun c hc => (a.own c hc).elim (p.own c) fun z => .inr (h c z)⟩
/-- one name's store -/
theorem asn1_tv {x : TV} {v : V} {ps : List Addr} {i : Nat} {m : Bool} (s : StR K B F H σ r) (t : TvL K F H [x] [v] ps) (no : ∀ p ∈ ps, ¬ Own σ r p ∧ B.h p = none) (e : asn1 i m x r = .ok () r') : ∃ F', AsT K B H ps σ r F (σ.set i (some v)) r' F' := by
  unfold asn1 at e
  split at e
  · cases e
  · cases e
  · rename_i sl nb hs
    cases t with
    | d h _ =>
      cases m with
      | true => rw [if_pos rfl] at e; cases e
      | false =>
        rw [if_neg (by decide)] at e
        cases e
        exact ⟨F, asn_val s h hs, Sub.refl _, fun _ q => .inl q, fun a q => .inl (own_sub q)⟩
    | @f d p o _ _ ps h1 h2 h3 h4 rest =>
      obtain ⟨n1, n2⟩ := no p List.mem_cons_self
      cases m with
      | true =>
        rw [if_pos rfl] at e
        cases e
        obtain ⟨st', ow'⟩ := asn_own s h1 h2 h3 n1 n2 hs
        exact ⟨F, st', Sub.refl _, fun _ q => .inl q, fun a q => (ow' a q).imp id fun z => by rw [z]; exact List.mem_cons_self⟩
      | false =>
        rw [if_neg (by decide)] at e
        cases e
        have st1 := freeze (H0 := B.h) s h1 h2 n1
        refine ⟨upd F p o, asn_val st1 ((h3.mono (sub_upd h2)).rp upd_same) hs, sub_upd h2, fun a q => ?_, fun a q => .inl (own_sub q)⟩
        rcases upd_some q with z | z
        · exact .inr (by rw [z]; exact List.mem_cons_self)
        · exact .inl z
end
def RdT (K : Fg) (B : Bs) (t : IT) : TG := fun v σ H Q => ∃ F r x ps, StR K B F H σ r ∧ TvL K F H [x] [v] ps ∧ (∀ p ∈ ps, ¬ Own σ r p ∧ B.h p = none) ∧ ∃ r', asn t x r = .ok () r' ∧ ∀ σ' F', AsT K B H ps σ r F σ' r' F' → Q σ' H
def RdTs (K : Fg) (B : Bs) (t : List IT) : TGs := fun vs σ H Q => ∃ F r xs ps, StR K B F H σ r ∧ TvL K F H xs vs ps ∧ (∀ p ∈ ps, ¬ Own σ r p ∧ B.h p = none) ∧ ∃ r', asnP t xs r = .ok () r' ∧ ∀ σ' F', AsT K B H ps σ r F σ' r' F' → Q σ' H
section
variable {X : Cx} {B : Bs} {pos : Pos}
theorem rt_name {i : Nat} {x : Str} {m : Bool} (hN : X.N.Nodup) (hi : X.N[i]? = some x) (hx : Loc X.env.scope x) (hf : X.fn x = true ∨ X.env.scope.names.lookup x = some .local) : PG X (.Name x pos) (RdT X.K B (.n i m)) := by
  refine PG.weak (pg_name hN hi hx hf) fun v σ H Q ⟨F, r, x, ps, st, hv, no, r', e, k⟩ => ?_
  obtain ⟨F', a⟩ := asn1_tv st hv no e
  exact k _ F' a
theorem rt_tup {e : Expr} {l : List IT} (h : PG X e (RdG X.K B (.t l))) : PG X e (RdT X.K B (.t l)) := by
  refine PG.weak h fun v σ H Q ⟨F, r, x, ps, st, hv, no, r', e, k⟩ => ?_
  cases hv with
  | d h rest =>
    cases rest
    refine ⟨F, r, _, st, h, r', e, fun σ' a => k σ' F ⟨a.st, Sub.refl _, fun _ q => .inl q, fun c q => .inl (a.own c q)⟩⟩
  | @f d p o _ _ _ h1 h2 h3 h4 rest =>
    exfalso
    unfold asn at e
    split at e
    · rename_i xs q
      cases (show some d = some (PyData.tuple xs) from q)
      exact h3
    · cases e
theorem rts_nil : PGs X [] (RdTs X.K B []) := by
  refine PGs.weak pgs_nil fun vs σ H Q ⟨F, r, xs, ps, st, hv, no, r', e, k⟩ => ?_
  cases hv with
  | nil =>
    cases (show Res.ok () r = Res.ok () r' from e)
    exact ⟨rfl, k σ F (AsT.refl st)⟩
  | d _ _ => cases (show (Res.stuck : Res Unit) = Res.ok () r' from e)
  | f _ _ _ _ _ => cases (show (Res.stuck : Res Unit) = Res.ok () r' from e)
theorem rts_cons {e : Expr} {es : List Expr} {t : IT} {ts : List IT} (hp : plainE e = true) (h1 : PG X e (RdT X.K B t)) (h2 : PGs X es (RdTs X.K B ts)) : PGs X (e :: es) (RdTs X.K B (t :: ts)) := by
  refine PGs.weak (pgs_cons h1 h2 (by rw [each_cons hp]; rfl)) fun vs σ H Q ⟨F, r, xs, ps, st, hv, no, r', e, k⟩ => ?_
  cases hv with
  | nil => cases (show (Res.stuck : Res Unit) = Res.ok () r' from e)
  | @d d v ts' vs ps h rest =>
    obtain ⟨_, r1, e1, e2⟩ := bind_inv (show (asn t (.d d) r).bind (fun _ r' => asnP ts ts' r') = Res.ok () r' from e)
    refine ⟨v, vs, rfl, F, r, .d d, [], st, .d h .nil, (fun p hp => nomatch hp), r1, e1, fun σ1 F1 a1 => ?_⟩
    have nf : ∀ p ∈ ps, F1 p = none := fun p hp => by
      cases z : F1 p with
      | none => rfl
      | some u =>
        rcases a1.fr p (by rw [z]; simp) with w | w
        · exact absurd (TvL.fnone rest p hp) w
        · exact nomatch w
    refine ⟨F1, r1, ts', ps, a1.st, rest.keep a1.mono (fun _ _ _ q => q) nf, fun p hp => ⟨fun z => ?_, (no p hp).2⟩, r', e2, fun σ2 F2 a2 => k σ2 F2 (by simpa using a1.trans a2)⟩
    rcases a1.own p z with w | w
    · exact (no p hp).1 w
    · exact nomatch w
  | @f d p o ts' vs ps h1 h2 h3 h4 rest =>
    obtain ⟨_, r1, e1, e2⟩ := bind_inv (show (asn t (.f d) r).bind (fun _ r' => asnP ts ts' r') = Res.ok () r' from e)
    refine ⟨_, vs, rfl, F, r, .f d, [p], st, .f h1 h2 h3 (fun z => nomatch z) .nil, fun q hq => ?_, r1, e1, fun σ1 F1 a1 => ?_⟩
    · rcases List.mem_cons.mp hq with rfl | hq
      · exact no _ List.mem_cons_self
      · exact nomatch hq
    have nf : ∀ q ∈ ps, F1 q = none := fun q hq => by
      cases z : F1 q with
      | none => rfl
      | some u =>
        rcases a1.fr q (by rw [z]; simp) with w | w
        · exact absurd (TvL.fnone rest q hq) w
        · rcases List.mem_cons.mp w with rfl | w
          · exact absurd hq h4
          · exact nomatch w
    refine ⟨F1, r1, ts', ps, a1.st, rest.keep a1.mono (fun _ _ _ q => q) nf, fun q hq => ⟨fun z => ?_, (no q (List.mem_cons_of_mem _ hq)).2⟩, r', e2, fun σ2 F2 a2 => k σ2 F2 (by simpa using a1.trans a2)⟩
    rcases a1.own q z with w | w
    · exact (no q (List.mem_cons_of_mem _ hq)).1 w
    · rcases List.mem_cons.mp w with rfl | w
      · exact absurd hq h4
      · exact nomatch w
end
end Ev

set_option linter.all false
set_option maxHeartbeats 4000000
namespace Ev
open PySem PySem.Spec PyProof.Rows L2
def lineOf (ts : List Expr) : Nat := (ts.head?.map (·.pos.line)).getD 0
def namesOf (kd : Str → Option NameKind) (line : Nat) (ts : List Expr) : List Str := ts.filterMap fun
    | .Name id pos => if kd id == some .local && pos.line == line then some id else none
    | _ => none
def swapP (kd : Str → Option NameKind) (bk : ScopeKind) (ts vs : List Expr) : Option (Option (List Str)) :=
  if (!(ts.length == 2 || ts.length == 3) || vs.length != ts.length || bk != .function) = true then some none
  else if (vs.any fun | .Starred .. => true | _ => false) = true then some none
  else if ((namesOf kd (lineOf ts) ts).length != ts.length || (namesOf kd (lineOf ts) ts).eraseDups.length != (namesOf kd (lineOf ts) ts).length) = true then some none
  else if vs.all (foldedForSure 8) = true then some none
  else if vs.all (constantsAlone 8) = true then none
  else some (some (namesOf kd (lineOf ts) ts))
theorem swap_ok {env : PySem.Env} {ts vs : List Expr} {kt k2 : Nat} {p p2 : Pos} {o : Option (List Str)} (h : swapP env.kindOf env.blockKind ts vs = some o) : swappedStores [.Tuple ts kt p] (.Tuple vs k2 p2) env = pure o := by
  unfold swapP at h
  unfold swappedStores
  dsimp only
  split at h
  · rename_i w
    cases h
    exact if_pos w
  · rename_i w
    refine Eq.trans (if_neg w) ?_
    split at h
    · rename_i w
      cases h
      exact if_pos w
    · rename_i w
      refine Eq.trans (if_neg w) ?_
      split at h
      · rename_i w
        cases h
        exact if_pos w
      · rename_i w
        refine Eq.trans (if_neg w) ?_
        split at h
        · rename_i w
          cases h
          exact if_pos w
        · rename_i w
          refine Eq.trans (if_neg w) ?_
          split at h
          · cases h
          · rename_i w
            cases h
            exact if_neg w
theorem swap_none {env : PySem.Env} {sc : Scope} {ts vs : List Expr} {kt k2 : Nat} {p p2 : Pos} {o : Option (List Str)} (e : env.scope = sc) (hk : sc.kind = .function) (h : swapP (fun x => sc.names.lookup x) .function ts vs = some o) : swappedStores [.Tuple ts kt p] (.Tuple vs k2 p2) env = pure o := by
  subst e
  have hb : env.blockKind = .function := by unfold Env.blockKind; rw [hk]; rfl
  refine swap_ok ?_
  rw [hb]
  exact h
section
variable {X : Cx} {B : Bs} {pos : Pos}
theorem asnP_len : ∀ {ts : List IT} {xs : List TV} {r r' : Env}, asnP ts xs r = .ok () r' → xs.length = ts.length
  | [], [], _, _, _ => rfl
  | [], _ :: _, r, r', e => by cases (show (Res.stuck : Res Unit) = Res.ok () r' from e)
  | _ :: _, [], r, r', e => by cases (show (Res.stuck : Res Unit) = Res.ok () r' from e)
  | t :: ts, x :: xs, r, r', e => by
    obtain ⟨_, r1, _, e2⟩ := bind_inv (show (asn t x r).bind (fun _ r' => asnP ts xs r') = Res.ok () r' from e)
    rw [List.length_cons, List.length_cons, asnP_len e2]
theorem rs_asp {es vs : List Expr} {kt k2 : Nat} {p2 p3 : Pos} {ts : List IT} {g : Env → Res (List TV)} (hc : X.calm = true) (hp : es.all plainE = true) (hlen : es.length = ts.length) (hw : swappedStores [.Tuple es kt p2] (.Tuple vs k2 p3) X.env = pure none)
    (ha : PA X vs (RdF X.K B g)) (hg : PGs X es (RdTs X.K B ts)) :
    PS X (.Assign [.Tuple es kt p2] (.Tuple vs k2 p3) pos) (RdS X.K B fun r => (g r).bind fun xs r1 => if xs.length ≤ SZ then (asnP ts xs r1).bind fun _ r2 => .ok .nx r2 else .stuck) :=
  PS.imp (ps_asg (pe_tup ha) (pg_tup hc hg (each_len hp).1 (each_len hp).2) (sws_no rfl) hw) fun D σ H ⟨F, r, s, fl, r', q, k⟩ => by
    obtain ⟨tvs, r1, e1, q⟩ := bind_inv q
    split at q
    · rename_i wl
      obtain ⟨_, r2, e2, q⟩ := bind_inv q
      cases q
      refine ⟨F, r, s, tvs, r1, e1, fun xs ps F1 H1 p1 h1 n1 => ⟨by rw [h1.len, ← szl]; exact wl, fun p hp => ?_⟩⟩
      have lp := laid (o := .tup xs) p1.st hp
      refine ⟨p, xs, rfl, SqT.of upd_same, by rw [h1.len, asnP_len e2, hlen], F1, r1, tvs, ps, lp.st, h1.keep (Sub.refl _) (fun q _ o ho => ?_) (fun q hq => h1.fnone q hq), fun q hq => ⟨fun z => p1.ne s q z (n1 q hq), Classical.byContradiction fun n => s.dom q n (n1 q hq)⟩, r', e2, fun σ' F' a => ?_⟩
      · rw [upd_ne (ne_of_none ho hp)]; exact ho
      · exact k σ' F' _ (a.go (p1.trans lp).go n1)
    · cases q
theorem len2 {α : Type} {l : List α} (h : l.length = 2) : ∃ a b, l = [a, b] := by
  match l, h with
  | [a, b], _ => exact ⟨a, b, rfl⟩
theorem len3 {α : Type} {l : List α} (h : l.length = 3) : ∃ a b c, l = [a, b, c] := by
  match l, h with
  | [a, b, c], _ => exact ⟨a, b, c, rfl⟩
/-- a first store, then the rest -/
theorem step_tv {K : Fg} {B : Bs} {σ : L2.St} {r r1 : Env} {F H : Hp} {i : Nat} {m : Bool} {x : TV} {ts : List TV} {v : V} {vs : List V} {ps : List Addr} (s : StR K B F H σ r) (t : TvL K F H (x :: ts) (v :: vs) ps) (no : ∀ p ∈ ps, ¬ Own σ r p ∧ B.h p = none) (e : asn1 i m x r = .ok () r1) :
    ∃ qs rs F1, ps = qs ++ rs ∧ AsT K B H qs σ r F (σ.set i (some v)) r1 F1 ∧ TvL K F1 H ts vs rs ∧ ∀ p ∈ rs, ¬ Own (σ.set i (some v)) r1 p ∧ B.h p = none := by
  cases t with
  | @d d v ts' vs ps h rest =>
    obtain ⟨F1, a1⟩ := asn1_tv s (.d h .nil) (fun p hp => nomatch hp) e
    have nf : ∀ p ∈ ps, F1 p = none := fun p hp => by
      cases z : F1 p with
      | none => rfl
      | some u =>
        rcases a1.fr p (by rw [z]; simp) with w | w
        · exact absurd (TvL.fnone rest p hp) w
        · exact nomatch w
    refine ⟨[], ps, F1, rfl, a1, rest.keep a1.mono (fun _ _ _ q => q) nf, fun p hp => ⟨fun z => ?_, (no p hp).2⟩⟩
    rcases a1.own p z with w | w
    · exact (no p hp).1 w
    · exact nomatch w
  | @f d p o ts' vs ps h1 h2 h3 h4 rest =>
    obtain ⟨F1, a1⟩ := asn1_tv (ps := [p]) s (.f h1 h2 h3 (List.not_mem_nil) .nil) (fun q hq => by
      rcases List.mem_cons.mp hq with rfl | hq
      · exact no _ List.mem_cons_self
      · exact nomatch hq) e
    have nf : ∀ q ∈ ps, F1 q = none := fun q hq => by
      cases z : F1 q with
      | none => rfl
      | some u =>
        rcases a1.fr q (by rw [z]; simp) with w | w
        · exact absurd (TvL.fnone rest q hq) w
        · rcases List.mem_cons.mp w with rfl | w
          · exact absurd hq h4
          · exact nomatch w
    refine ⟨[p], ps, F1, rfl, a1, rest.keep a1.mono (fun _ _ _ q => q) nf, fun q hq => ⟨fun z => ?_, (no q (List.mem_cons_of_mem _ hq)).2⟩⟩
    rcases a1.own q z with w | w
    · exact (no q (List.mem_cons_of_mem _ hq)).1 w
    · rcases List.mem_cons.mp w with rfl | w
      · exact absurd hq h4
      · exact nomatch w
theorem two_tv {K : Fg} {B : Bs} {σ : L2.St} {r ra rb : Env} {F H : Hp} {i j : Nat} {m1 m2 : Bool} {x y : TV} {v w : V} {ps : List Addr} (s : StR K B F H σ r) (t : TvL K F H [x, y] [v, w] ps) (no : ∀ p ∈ ps, ¬ Own σ r p ∧ B.h p = none) (e1 : asn1 i m1 x r = .ok () ra) (e2 : asn1 j m2 y ra = .ok () rb) :
    ∃ F2, AsT K B H ps σ r F ((σ.set i (some v)).set j (some w)) rb F2 := by
  obtain ⟨q1, p1, F1, rfl, a1, t1, n1⟩ := step_tv s t no e1
  obtain ⟨q2, p2, F2, rfl, a2, t2, n2⟩ := step_tv a1.st t1 n1 e2
  cases t2
  exact ⟨F2, by simpa using a1.trans a2⟩
theorem three_tv {K : Fg} {B : Bs} {σ : L2.St} {r ra rb rc : Env} {F H : Hp} {i j l : Nat} {m1 m2 m3 : Bool} {x y z : TV} {v w u : V} {ps : List Addr} (s : StR K B F H σ r) (t : TvL K F H [x, y, z] [v, w, u] ps) (no : ∀ p ∈ ps, ¬ Own σ r p ∧ B.h p = none) (e1 : asn1 i m1 x r = .ok () ra) (e2 : asn1 j m2 y ra = .ok () rb) (e3 : asn1 l m3 z rb = .ok () rc) :
    ∃ F2, AsT K B H ps σ r F (((σ.set i (some v)).set j (some w)).set l (some u)) rc F2 := by
  obtain ⟨q1, p1, F1, rfl, a1, t1, n1⟩ := step_tv s t no e1
  obtain ⟨F2, a2⟩ := two_tv a1.st t1 n1 e2 e3
  exact ⟨F2, a1.trans a2⟩
theorem rs_par2 {i j : Nat} {x y : Str} {a b : Expr} {px py pt p3 : Pos} {kt k2 : Nat} {m1 m2 : Bool} {g : Env → Res (List TV)} (hc : X.calm = true) (hN : X.N.Nodup) (hi : X.N[i]? = some x) (hj : X.N[j]? = some y) (hij : i ≠ j)
    (hx : X.env.scope.names.lookup x = some .local) (hy : X.env.scope.names.lookup y = some .local) (hw : swappedStores [.Tuple [.Name x px, .Name y py] kt pt] (.Tuple [a, b] k2 p3) X.env = pure (some [x, y])) (ha : PA X [a, b] (RdF X.K B g)) :
    PS X (.Assign [.Tuple [.Name x px, .Name y py] kt pt] (.Tuple [a, b] k2 p3) pos) (RdS X.K B fun r => (g r).bind fun xs r1 => if xs.length ≤ SZ then (asnP [.n i m1, .n j m2] xs r1).bind fun _ r2 => .ok .nx r2 else .stuck) :=
  PS.imp (ps_par hc hN hi hj hij hx hy ha hw (sws_no rfl)) fun D σ H ⟨F, r, s, fl, r', q, k⟩ => by
    obtain ⟨tvs, r1, e1, q⟩ := bind_inv q
    split at q
    · rename_i wl
      obtain ⟨_, r2, e2, q⟩ := bind_inv q
      cases q
      refine ⟨F, r, s, tvs, r1, e1, fun xs ps F1 H1 p1 h1 n1 => ?_⟩
      have hl := asnP_len e2
      have hl2 := h1.len
      have no : ∀ q ∈ ps, ¬ Own σ r1 q ∧ B.h q = none := fun q hq => ⟨fun z => p1.ne s q z (n1 q hq), Classical.byContradiction fun n => s.dom q n (n1 q hq)⟩
      obtain ⟨F2, v, w, ev, a2⟩ : ∃ F2 v w, xs = [v, w] ∧ AsT X.K B H1 ps σ r1 F1 ((σ.set i (some v)).set j (some w)) r' F2 := by
        · obtain ⟨t1, t2, rfl⟩ := len2 hl
          obtain ⟨v, w, rfl⟩ := len2 hl2
          obtain ⟨_, ra, ea, eb⟩ := bind_inv (show (asn1 i m1 t1 r1).bind (fun _ r' => asnP [.n j m2] [t2] r') = Res.ok () r' from e2)
          obtain ⟨_, rb, eb, ec⟩ := bind_inv (show (asn1 j m2 t2 ra).bind (fun _ r' => asnP [] [] r') = Res.ok () r' from eb)
          cases (show Res.ok () rb = Res.ok () r' from ec)
          obtain ⟨Fb, ab⟩ := two_tv p1.st h1 no ea eb
          exact ⟨Fb, v, w, rfl, ab⟩
      subst ev
      exact ⟨v, w, rfl, k _ F2 H1 (a2.go p1.go n1)⟩
    · cases q
theorem rs_par3 {i j l : Nat} {x y z : Str} {a b c : Expr} {px py pz pt p3 : Pos} {kt k2 : Nat} {m1 m2 m3 : Bool} {g : Env → Res (List TV)} (hc : X.calm = true) (hN : X.N.Nodup) (hi : X.N[i]? = some x) (hj : X.N[j]? = some y) (hl : X.N[l]? = some z) (hij : i ≠ j) (hil : i ≠ l) (hjl : j ≠ l)
    (hx : X.env.scope.names.lookup x = some .local) (hy : X.env.scope.names.lookup y = some .local) (hz : X.env.scope.names.lookup z = some .local) (hw : swappedStores [.Tuple [.Name x px, .Name y py, .Name z pz] kt pt] (.Tuple [a, b, c] k2 p3) X.env = pure (some [x, y, z])) (ha : PA X [a, b, c] (RdF X.K B g)) :
    PS X (.Assign [.Tuple [.Name x px, .Name y py, .Name z pz] kt pt] (.Tuple [a, b, c] k2 p3) pos) (RdS X.K B fun r => (g r).bind fun xs r1 => if xs.length ≤ SZ then (asnP [.n i m1, .n j m2, .n l m3] xs r1).bind fun _ r2 => .ok .nx r2 else .stuck) :=
  PS.imp (ps_par3 hc hN hi hj hl hij hil hjl hx hy hz ha hw (sws_no rfl)) fun D σ H ⟨F, r, s, fl, r', q, k⟩ => by
    obtain ⟨tvs, r1, e1, q⟩ := bind_inv q
    split at q
    · rename_i wl
      obtain ⟨_, r2, e2, q⟩ := bind_inv q
      cases q
      refine ⟨F, r, s, tvs, r1, e1, fun xs ps F1 H1 p1 h1 n1 => ?_⟩
      have hl := asnP_len e2
      have hl2 := h1.len
      have no : ∀ q ∈ ps, ¬ Own σ r1 q ∧ B.h q = none := fun q hq => ⟨fun z => p1.ne s q z (n1 q hq), Classical.byContradiction fun n => s.dom q n (n1 q hq)⟩
      obtain ⟨F2, v, w, u, ev, a2⟩ : ∃ F2 v w u, xs = [v, w, u] ∧ AsT X.K B H1 ps σ r1 F1 (((σ.set i (some v)).set j (some w)).set l (some u)) r' F2 := by
        · obtain ⟨t1, t2, t3, rfl⟩ := len3 hl
          obtain ⟨v, w, u, rfl⟩ := len3 hl2
          obtain ⟨_, ra, ea, eb⟩ := bind_inv (show (asn1 i m1 t1 r1).bind (fun _ r' => asnP [.n j m2, .n l m3] [t2, t3] r') = Res.ok () r' from e2)
          obtain ⟨_, rb, eb, ec⟩ := bind_inv (show (asn1 j m2 t2 ra).bind (fun _ r' => asnP [.n l m3] [t3] r') = Res.ok () r' from eb)
          obtain ⟨_, rc, ec, ed⟩ := bind_inv (show (asn1 l m3 t3 rb).bind (fun _ r' => asnP [] [] r') = Res.ok () r' from ec)
          cases (show Res.ok () rc = Res.ok () r' from ed)
          obtain ⟨Fb, ab⟩ := three_tv p1.st h1 no ea eb ec
          exact ⟨Fb, v, w, u, rfl, ab⟩
      subst ev
      exact ⟨v, w, u, rfl, k _ F2 H1 (a2.go p1.go n1)⟩
    · cases q
end
end Ev

set_option linter.all false
set_option maxHeartbeats 4000000
namespace Ev
open PySem PySem.Spec PyProof.Rows L2
def isLC : IE → Expr → Bool
  | .cm1 _ _ _ _ _, .ListComp _ _ _ _ => true
  | .cm2 _ _ _ _ _ _ _ _ _, .ListComp _ _ _ _ => true
  | _, _ => false
def chV (c : Ck) (sc : Scope) (e : IE) (v : Expr) : Bool := chE c sc e v && (notComp v || isLC e v)
abbrev allB : Str → Bool := fun _ => true
def chT1 (c : Ck) (sc : Scope) : IT → Expr → Bool
  | .n i m, e => match e with
    | .Name x _ => slotB c i x && locB sc x
    | _ => false
  | .t l, e => chG c allB sc (.t l) e
def chTs (c : Ck) (sc : Scope) : List IT → List Expr → Bool
  | [], [] => true
  | t :: ts, e :: es => chT1 c sc t e && chTs c sc ts es
  | _, _ => false
def par2 (c : Ck) (sc : Scope) (ts : List IT) (es vs : List Expr) (nm : List Str) : Bool := match ts, es, vs, nm with
  | [.n i _, .n j _], [.Name x _, .Name y _], [_, _], [x', y'] => slotB c i x && (slotB c j y && (!(i == j) && (isLoc sc x && (isLoc sc y && ((x == x') && (y == y'))))))
  | _, _, _, _ => false
def par3 (c : Ck) (sc : Scope) (ts : List IT) (es vs : List Expr) (nm : List Str) : Bool := match ts, es, vs, nm with
  | [.n i _, .n j _, .n l _], [.Name x _, .Name y _, .Name z _], [_, _, _], [x', y', z'] => slotB c i x && (slotB c j y && (slotB c l z && (!(i == j) && (!(i == l) && (!(j == l) && (isLoc sc x && (isLoc sc y && (isLoc sc z && ((x == x') && ((y == y') && (z == z')))))))))))
  | _, _, _, _ => false
def chSwap (c : Ck) (sc : Scope) (ts : List IT) (es vs : List Expr) : Bool := match swapP (fun x => sc.names.lookup x) .function es vs with
  | some none => es.all plainE && ((es.length == ts.length) && chTs c sc ts es)
  | some (some nm) => par2 c sc ts es vs nm || par3 c sc ts es vs nm
  | none => false
mutual
def chS (c : Ck) (sc : Scope) : IS → Stmt → Bool
  | .asg t e, st => match st with
    | .Assign [tg] v _ => (match t with
      | .n i m => (match tg with
        | .Name x _ => slotB c i x && (locB sc x && chV c sc e v)
        | _ => false)
      | .t l => (match tg with
        | .Tuple es k p => notComp v && (notTup v && (chE c sc e v && chG c allB sc (.t l) (.Tuple es k p)))
        | _ => false))
    | _ => false
  | .asp ts l, st => match st with
    | .Assign [.Tuple es _ _] (.Tuple vs _ _) _ => chSwap c sc ts es vs && chA c sc l vs
    | _ => false
  | .sto i k e, st => match st with
    | .Assign [.Subscript (.Name x _) y _] v _ => slotB c i x && (visB sc x && (dbgB x && (notComp v && (plainIxB y && (chE c sc e v && chE c sc k y)))))
    | _ => false
  | .app i e, st => match st with
    | .Expr (.Call (.Attribute (.Name x _) m ap) [y] [] cp) _ => (m == ("append" : Str)) && (slotB c i x && (visB sc x && (dbgB x && ((ap.endLine == cp.line) && (plainE y && chE c sc e y)))))
    | _ => false
  | .ex e, st => match st with
    | .Expr v _ => notComp v && chE c sc e v
    | _ => false
  | .ret e, st => match st with
    | .Return (some v) _ => chE c sc e v
    | _ => false
  | .retN, st => match st with
    | .Return none _ => true
    | _ => false
  | .ifs t a b, st => match st with
    | .If t' p q _ => chE c sc t t' && (chB c sc a p && chB c sc b q)
    | _ => false
  | .whl t a, st => match st with
    | .While t' p [] _ => chE c sc t t' && chB c sc a p
    | _ => false
  | .fr t it a, st => match st with
    | .For tg iter p [] _ => chG c allB sc t tg && (notSet iter && (chI c sc it tg iter && chB c sc a p))
    | _ => false
  | .pas, st => match st with
    | .Pass _ => true
    | .Expr (.Constant (.str _) _ _) _ => true
    | _ => false
  | .brk, st => match st with
    | .Break _ => true
    | _ => false
  | .cnt, st => match st with
    | .Continue _ => true
    | _ => false
  | .rse _, st => match st with
    | .Raise _ _ _ => true
    | _ => false
def chB (c : Ck) (sc : Scope) : IB → List Stmt → Bool
  | .nil, l => match l with
    | [] => true
    | _ => false
  | .cons a r, l => match l with
    | st :: sts => chS c sc a st && chB c sc r sts
    | _ => false
end
theorem okF (c : Ck) (call : Nat → List Sl → CR) : ∀ (l : IA) (sc : Scope) (fnB : Str → Bool) (X : Cx) (B : Bs) (es : List Expr), Ct c call sc fnB X → chA c sc l es = true → PA X es (RdF X.K B (evF call l))
  | .nil, sc, fnB, X, B, es, ct, h => by
    unfold chA at h
    split at h
    · exact rf_nil
    · cases h
  | .cons a l, sc, fnB, X, B, es, ct, h => by
    unfold chA at h
    split at h
    · rename_i e r
      simp only [Bool.and_eq_true] at h
      obtain ⟨h1, h2, h3⟩ := h
      exact rf_cons (okE c call a sc fnB X B e ct h2).1 (okF c call l sc fnB X B r ct h3) (star_cons h1)
    · cases h
  | .lend i l, sc, fnB, X, B, es, ct, h => by simp [chA] at h
section
variable {c : Ck} {call : Nat → List Sl → CR} {sc : Scope} {X : Cx} {B : Bs}
theorem okT1 (ct : Ct c call sc allB X) : ∀ (t : IT) (e : Expr), chT1 c sc t e = true → PG X e (RdT X.K B t)
  | .n i m, e, h => by
    simp only [chT1] at h
    split at h
    · rename_i x p
      rw [Bool.and_eq_true] at h
      exact rt_name (ct.N ▸ ct.nd) (ct.N ▸ slotB_ok h.1) (ct.sc ▸ locB_ok h.2) (.inl (ct.fnb _ rfl))
    · cases h
  | .t l, e, h => rt_tup (okG ct (.t l) e h)
theorem okTs (ct : Ct c call sc allB X) : ∀ (t : List IT) (es : List Expr), chTs c sc t es = true → es.all plainE = true → PGs X es (RdTs X.K B t)
  | [], [], _, _ => rts_nil
  | [], _ :: _, h, _ => by simp [chTs] at h
  | _ :: _, [], h, _ => by simp [chTs] at h
  | t :: ts, e :: es, h, hp => by
    simp only [chTs, Bool.and_eq_true] at h
    rw [List.all_cons, Bool.and_eq_true] at hp
    exact rts_cons hp.1 (okT1 ct t e h.1) (okTs ct ts es h.2 hp.2)
theorem ne_ok {i j : Nat} (h : (!(i == j)) = true) : i ≠ j := by simpa using h
theorem ok_asp (ct : Ct c call sc allB X) (hk : sc.kind = .function) {ts : List IT} {l : IA} {es vs : List Expr} {k1 k2 : Nat} {p1 p2 pos : Pos} (h1 : chSwap c sc ts es vs = true) (h2 : chA c sc l vs = true) :
    PS X (.Assign [.Tuple es k1 p1] (.Tuple vs k2 p2) pos) (RdS X.K B fun r => (evF call l r).bind fun xs r1 => if xs.length ≤ SZ then (asnP ts xs r1).bind fun _ r2 => .ok .nx r2 else .stuck) := by
  have ha := okF c call l sc allB X B vs ct h2
  unfold chSwap at h1
  split at h1
  · rename_i hs
    simp only [Bool.and_eq_true] at h1
    obtain ⟨a1, a2, a3⟩ := h1
    exact rs_asp ct.calm a1 (eq_of_beq a2) (swap_none ct.sc hk hs) ha (okTs ct ts es a3 a1)
  · rename_i nm hs
    have hw := swap_none (env := X.env) (kt := k1) (k2 := k2) (p := p1) (p2 := p2) ct.sc hk hs
    rw [Bool.or_eq_true] at h1
    rcases h1 with h1 | h1
    · unfold par2 at h1
      split at h1
      · rename_i i m1 j m2 x px y py a b x' y'
        simp only [Bool.and_eq_true] at h1
        obtain ⟨b1, b2, b3, b4, b5, b6, b7⟩ := h1
        have e1 := eq_of_beq b6
        have e2 := eq_of_beq b7
        subst e1 e2
        exact rs_par2 ct.calm (ct.N ▸ ct.nd) (ct.N ▸ slotB_ok b1) (ct.N ▸ slotB_ok b2) (ne_ok b3) (ct.sc ▸ isLoc_ok b4) (ct.sc ▸ isLoc_ok b5) hw ha
      · cases h1
    · unfold par3 at h1
      split at h1
      · rename_i i m1 j m2 l' m3 x px y py z pz a b d x' y' z'
        simp only [Bool.and_eq_true] at h1
        obtain ⟨b1, b2, b3, b4, b5, b6, b7, b8, b9, b10, b11, b12⟩ := h1
        have e1 := eq_of_beq b10
        have e2 := eq_of_beq b11
        have e3 := eq_of_beq b12
        subst e1 e2 e3
        exact rs_par3 ct.calm (ct.N ▸ ct.nd) (ct.N ▸ slotB_ok b1) (ct.N ▸ slotB_ok b2) (ct.N ▸ slotB_ok b3) (ne_ok b4) (ne_ok b5) (ne_ok b6) (ct.sc ▸ isLoc_ok b7) (ct.sc ▸ isLoc_ok b8) (ct.sc ▸ isLoc_ok b9) hw ha
      · cases h1
  · cases h1
theorem ok_set (ct : Ct c call sc allB X) (hk : sc.kind = .function) {i : Nat} {m : Bool} {e : IE} {v : Expr} {x : Str} {p pos : Pos} (h1 : slotB c i x = true) (h2 : locB sc x = true) (h3 : chV c sc e v = true) :
    PS X (.Assign [.Name x p] v pos) (RdS X.K B fun r => (evE call e r).bind fun x r1 => (asn (.n i m) x r1).bind fun _ r2 => .ok .nx r2) := by
  unfold chV at h3
  rw [Bool.and_eq_true, Bool.or_eq_true] at h3
  obtain ⟨h3, h4⟩ := h3
  have hf : X.fn x = true ∨ X.env.scope.names.lookup x = some .local := .inl (ct.fnb _ rfl)
  have hi : X.N[i]? = some x := ct.N ▸ slotB_ok h1
  have hl : Loc X.env.scope x := ct.sc ▸ locB_ok h2
  have hkk : X.env.scope.kind = .function := by rw [ct.sc]; exact hk
  rcases h4 with h4 | h4
  · exact rs_set (ct.N ▸ ct.nd) hi hl hf (sw_no h4) (okE c call e sc allB X B v ct h3).1
  · unfold isLC at h4
    split at h4
    · rename_i own elt t it cn elt' gens scope lp
      unfold chE at h3
      split at h3
      · rename_i elt2 g scope2 p2 heq
        cases heq
        obtain ⟨tg, iter, ifs, asy⟩ := g
        simp only [Bool.and_eq_true] at h3
        obtain ⟨a1, a2, a3, a4, a5, a6, a7, a8⟩ := h3
        have e0 : asy = 0 := eq_of_beq a1
        subst e0
        exact rs_setLc hkk hi hl hf (lc1_of (okE c call elt) (okI c call it) (okT c call cn) B ct a2 a3 a4 a5 a6 a7 a8)
      · cases h3
    · rename_i own own2 elt t it cn t2 it2 cn2 elt' gens scope lp
      unfold chE at h3
      split at h3
      · rename_i elt2 g g2 scope2 p2 heq
        cases heq
        obtain ⟨tg, iter, ifs, asy⟩ := g
        obtain ⟨tg2, iter2, ifs2, asy2⟩ := g2
        simp only [Bool.and_eq_true] at h3
        obtain ⟨a1, a2, a3, a4, a5, a6, a7, a8, a9, a10, a11, a12, a13, a14, a15⟩ := h3
        have e0 : asy = 0 := eq_of_beq a1
        have e02 : asy2 = 0 := eq_of_beq a9
        subst e0 e02
        exact rs_setLc2 hkk hi hl hf (⟨lc1_of (okE c call elt) (okI c call it) (okT c call cn) B ct a2 a3 a4 a5 a6 a7 a8, fun s H C cl fp => okI c call it2 _ _ _ B tg2 iter2 (ct.blk s H _ cl C fp) a11, fun s H C cl fp => okG (ct.blk s H _ cl C fp) t2 tg2 a12,
          fun s H C cl fp => okT c call cn2 _ _ _ B ifs2 (ct.blk s H _ cl C fp) a13, fun env => folded_ok a10, sub_ok a14, sub_ok a15⟩ : Lc2 X B tg iter _ tg2 iter2 ifs ifs2 _ own own2 t t2 (evI call it) (evI call it2) (evT call cn) (evT call cn2) (ev call elt).1)
      · cases h3
    · cases h4
end
mutual
theorem okS (c : Ck) (call : Nat → List Sl → CR) (W : Nat) {sc : Scope} {X : Cx} (B : Bs) (ct : Ct c call sc allB X) (hk : sc.kind = .function) (hx : PassesOwn (model X.prog X.w) X.A X.env X.xe) : ∀ (s : IS) (st : Stmt), chS c sc s st = true → PS X st (RdS X.K B (evS call W s))
  | .asg t e, st, h => by
    unfold chS at h
    split at h
    · rename_i tg v pos
      split at h
      · rename_i i m
        split at h
        · rename_i x p
          simp only [Bool.and_eq_true] at h
          obtain ⟨h1, h2, h3⟩ := h
          exact ok_set ct hk h1 h2 h3
        · cases h
      · rename_i l
        split at h
        · rename_i es k p
          simp only [Bool.and_eq_true] at h
          obtain ⟨h1, h2, h3, h4⟩ := h
          exact rs_tup h1 h2 (okE c call e sc allB X B v ct h3).1 (okG ct (.t l) _ h4)
        · cases h
    · cases h
  | .asp ts l, st, h => by
    unfold chS at h
    split at h
    · rw [Bool.and_eq_true] at h
      exact ok_asp ct hk h.1 h.2
    · cases h
  | .sto i k e, st, h => by
    unfold chS at h
    split at h
    · rename_i x p2 y p3 v pos
      simp only [Bool.and_eq_true] at h
      obtain ⟨h1, h2, h3, h4, h5, h6, h7⟩ := h
      obtain ⟨d1, d2⟩ := dbgB_ok h3
      exact rs_sto (ct.N ▸ slotB_ok h1) (ct.sc ▸ visB_ok h2) d1 d2 h4 h5 (okE c call e sc allB X B v ct h6).1 (okE c call k sc allB X B y ct h7).1
    · cases h
  | .app i e, st, h => by
    unfold chS at h
    split at h
    · rename_i x p2 m ap y cp pos
      simp only [Bool.and_eq_true] at h
      obtain ⟨h1, h2, h3, h4, h5, h6, h7⟩ := h
      obtain ⟨d1, d2⟩ := dbgB_ok h4
      have e1 := eq_of_beq h1
      subst e1
      exact rs_app (ct.N ▸ slotB_ok h2) (ct.sc ▸ visB_ok h3) d1 d2 h5 h6 (okE c call e sc allB X B y ct h7).1
    · cases h
  | .ex e, st, h => by
    unfold chS at h
    split at h
    · rename_i v pos
      rw [Bool.and_eq_true] at h
      exact rs_ex h.1 (okE c call e sc allB X B v ct h.2).1
    · cases h
  | .ret e, st, h => by
    unfold chS at h
    split at h
    · exact rs_ret (okE c call e sc allB X B _ ct h).1
    · cases h
  | .retN, st, h => by
    unfold chS at h
    split at h
    · exact rs_retN
    · cases h
  | .ifs t a b, st, h => by
    unfold chS at h
    split at h
    · simp only [Bool.and_eq_true] at h
      obtain ⟨h1, h2, h3⟩ := h
      exact rs_if (okE c call t sc allB X B _ ct h1).2.1 (okB c call W B ct hk hx a _ h2) (okB c call W B ct hk hx b _ h3)
    · cases h
  | .whl t a, st, h => by
    unfold chS at h
    split at h
    · simp only [Bool.and_eq_true] at h
      obtain ⟨h1, h2⟩ := h
      exact rs_whl hx (okE c call t sc allB X B _ ct h1).2.1 (okB c call W B ct hk hx a _ h2)
    · cases h
  | .fr t it a, st, h => by
    unfold chS at h
    split at h
    · simp only [Bool.and_eq_true] at h
      obtain ⟨h1, h2, h3, h4⟩ := h
      exact rs_for hx ct.calm (okI c call it sc allB X B _ _ ct h3) (okG ct t _ h1) (okB c call W B ct hk hx a _ h4) (folded_ok h2)
    · cases h
  | .pas, st, h => by
    unfold chS at h
    split at h
    · exact rs_pas
    · exact rs_doc
    · cases h
  | .brk, st, h => by
    unfold chS at h
    split at h
    · exact rs_brk
    · cases h
  | .cnt, st, h => by
    unfold chS at h
    split at h
    · exact rs_cnt
    · cases h
  | .rse cl, st, h => rs_rse
theorem okB (c : Ck) (call : Nat → List Sl → CR) (W : Nat) {sc : Scope} {X : Cx} (B : Bs) (ct : Ct c call sc allB X) (hk : sc.kind = .function) (hx : PassesOwn (model X.prog X.w) X.A X.env X.xe) : ∀ (s : IB) (st : List Stmt), chB c sc s st = true → PSs X st (RdS X.K B (evB call W s))
  | .nil, st, h => by
    unfold chB at h
    split at h
    · exact rs_nil
    · cases h
  | .cons a l, st, h => by
    unfold chB at h
    split at h
    · rw [Bool.and_eq_true] at h
      exact rs_cons (okS c call W B ct hk hx a _ h.1) (okB c call W B ct hk hx l _ h.2)
    · cases h
end
end Ev

set_option linter.all false
set_option maxHeartbeats 4000000
/-! Each def keeps the promise that the evaluator's call tells. -/
namespace Ev
open PySem PySem.Spec PyProof.Rows L2
section
variable {K : Fg} {F H : Hp}
theorem ArgsR.length : ∀ {vs : List V} {ss : List Sl}, ArgsR K F H vs ss → vs.length = ss.length
  | _, _, .nil => rfl
  | _, _, .v _ r => by rw [List.length_cons, List.length_cons, r.length]
  | _, _, .l _ _ _ r => by rw [List.length_cons, List.length_cons, r.length]
theorem ArgsR.get : ∀ {vs : List V} {ss : List Sl}, ArgsR K F H vs ss → ∀ (i : Nat) (s : Sl), ss[i]? = some s → (∃ d x, s = .val d ∧ vs[i]? = some x ∧ Rp K F x d) ∨ ∃ d a o, s = .bor d ∧ vs[i]? = some (.ref a) ∧ H a = some o ∧ F a = none ∧ ObR K F o d ∧ a ∈ lentA vs ss
  | _, _, .nil, i, s, h => by simp at h
  | _, _, .v (x := x) (d := d) hx r, 0, s, h => by
    simp only [List.getElem?_cons_zero, Option.some.injEq] at h
    exact .inl ⟨d, x, h.symm, rfl, hx⟩
  | _, _, .l (a := a) (o := o) (d := d) h1 h2 h3 r, 0, s, h => by
    simp only [List.getElem?_cons_zero, Option.some.injEq] at h
    exact .inr ⟨d, a, o, h.symm, rfl, h1, h2, h3, List.mem_cons_self⟩
  | _, _, .v (x := x) (d := d) (vs := vs) (ss := ss) hx r, i + 1, s, h => by
    simp only [List.getElem?_cons_succ] at h ⊢
    have el : lentA (x :: vs) (.val d :: ss) = lentA vs ss := by cases x <;> rfl
    rw [el]
    exact r.get i s h
  | _, _, .l (a := a) h1 h2 h3 r, i + 1, s, h => by
    simp only [List.getElem?_cons_succ] at h ⊢
    rcases r.get i s h with z | ⟨d, a, o, e1, e2, e3, e4, e5, e6⟩
    · exact .inl z
    · exact .inr ⟨d, a, o, e1, e2, e3, e4, e5, List.mem_cons_of_mem _ e6⟩
theorem ArgsR.inj : ∀ {vs : List V} {ss : List Sl}, ArgsR K F H vs ss → (lentA vs ss).Nodup → ∀ (i j : Nat) (d e : D) (a : Addr), ss[i]? = some (.bor d) → ss[j]? = some (.bor e) → vs[i]? = some (.ref a) → vs[j]? = some (.ref a) → i = j
  | _, _, .nil, _, i, j, d, e, a, h, _, _, _ => by simp at h
  | _, _, .v (x := x) (d := d0) (vs := vs) (ss := ss) hx r, n, i, j, d, e, a, h1, h2, h3, h4 => by
    have el : lentA (x :: vs) (.val d0 :: ss) = lentA vs ss := by cases x <;> rfl
    rw [el] at n
    cases i with
    | zero => simp at h1
    | succ i =>
      cases j with
      | zero => simp at h2
      | succ j =>
        simp only [List.getElem?_cons_succ] at h1 h2 h3 h4
        rw [r.inj n i j d e a h1 h2 h3 h4]
  | _, _, .l (a := a0) (vs := vs) (ss := ss) g1 g2 g3 r, n, i, j, d, e, a, h1, h2, h3, h4 => by
    have n' : a0 ∉ lentA vs ss ∧ (lentA vs ss).Nodup := List.nodup_cons.mp n
    cases i with
    | zero =>
      simp only [List.getElem?_cons_zero, Option.some.injEq] at h3
      cases h3
      cases j with
      | zero => rfl
      | succ j =>
        simp only [List.getElem?_cons_succ] at h2 h4
        rcases r.get j _ h2 with ⟨_, _, q, _⟩ | ⟨_, a', _, _, q, _, _, _, hm⟩
        · cases q
        · rw [h4] at q; cases q
          exact absurd hm n'.1
    | succ i =>
      simp only [List.getElem?_cons_succ] at h1 h3
      cases j with
      | zero =>
        simp only [List.getElem?_cons_zero, Option.some.injEq] at h4
        cases h4
        rcases r.get i _ h1 with ⟨_, _, q, _⟩ | ⟨_, a', _, _, q, _, _, _, hm⟩
        · cases q
        · rw [h3] at q; cases q
          exact absurd hm n'.1
      | succ j =>
        simp only [List.getElem?_cons_succ] at h2 h4
        rw [r.inj n'.2 i j d e a h1 h2 h3 h4]
theorem ArgsR.lent : ∀ {vs : List V} {ss : List Sl}, ArgsR K F H vs ss → ∀ a ∈ lentA vs ss, ∃ (i : Nat) (d : D), ss[i]? = some (.bor d) ∧ vs[i]? = some (.ref a)
  | _, _, .nil, a, h => nomatch h
  | _, _, .v (x := x) (d := d0) (vs := vs) (ss := ss) hx r, a, h => by
    have el : lentA (x :: vs) (.val d0 :: ss) = lentA vs ss := by cases x <;> rfl
    rw [el] at h
    obtain ⟨i, d, e1, e2⟩ := r.lent a h
    exact ⟨i + 1, d, by simpa using e1, by simpa using e2⟩
  | _, _, .l (a := a0) (d := d0) (vs := vs) (ss := ss) g1 g2 g3 r, a, h => by
    rcases List.mem_cons.mp (show a ∈ a0 :: lentA vs ss from h) with rfl | h
    · exact ⟨0, d0, rfl, rfl⟩
    · obtain ⟨i, d, e1, e2⟩ := r.lent a h
      exact ⟨i + 1, d, by simpa using e1, by simpa using e2⟩
theorem outs_bor : ∀ {ss : List Sl} {r' : Env} {outs : List D}, outsOf ss r' = some outs → ∀ (j : Nat) (d : D), ss[j]? = some (.bor d) → ∃ d', r'[j]? = some (.bor d')
  | [], _, _, _, j, d, h => by simp at h
  | .bor d0 :: l, .bor d1 :: r, outs, e, 0, d, h => ⟨d1, rfl⟩
  | .bor d0 :: l, .bor d1 :: r, outs, e, j + 1, d, h => by
    simp only [List.getElem?_cons_succ] at h ⊢
    obtain ⟨o, e1, _⟩ := Option.map_eq_some_iff.mp (show (outsOf l r).map (d1 :: ·) = some outs from e)
    exact outs_bor e1 j d h
  | .bor d0 :: l, [], outs, e, j, d, h => by cases e
  | .bor d0 :: l, .un :: r, outs, e, j, d, h => by cases e
  | .bor d0 :: l, .val _ :: r, outs, e, j, d, h => by cases e
  | .bor d0 :: l, .own _ :: r, outs, e, j, d, h => by cases e
  | .un :: l, [], outs, e, j, d, h => by cases e
  | .val _ :: l, [], outs, e, j, d, h => by cases e
  | .own _ :: l, [], outs, e, j, d, h => by cases e
  | .un :: l, s :: r, outs, e, j, d, h => by
    cases j with
    | zero => simp at h
    | succ j => exact outs_bor (show outsOf l r = some outs from e) j d (by simpa using h)
  | .val _ :: l, s :: r, outs, e, j, d, h => by
    cases j with
    | zero => simp at h
    | succ j => exact outs_bor (show outsOf l r = some outs from e) j d (by simpa using h)
  | .own _ :: l, s :: r, outs, e, j, d, h => by
    cases j with
    | zero => simp at h
    | succ j => exact outs_bor (show outsOf l r = some outs from e) j d (by simpa using h)
theorem outs_of {F' H' : Hp} : ∀ {vs : List V} {ss : List Sl}, ArgsR K F H vs ss → ∀ {r' : Env} {outs : List D}, outsOf ss r' = some outs →
    (∀ (j : Nat) (a : Addr) (d d' : D), vs[j]? = some (.ref a) → ss[j]? = some (.bor d) → r'[j]? = some (.bor d') → ∃ o, H' a = some o ∧ F' a = none ∧ ObR K F' o d') → OutsR K F' H' (lentA vs ss) outs
  | _, _, .nil, r', outs, e, hp => by
    cases (show some [] = some outs from e)
    exact .nil
  | _, _, .v (x := x) (d := d0) (vs := vs) (ss := ss) hx r, r', outs, e, hp => by
    have el : lentA (x :: vs) (.val d0 :: ss) = lentA vs ss := by cases x <;> rfl
    rw [el]
    cases r' with
    | nil => cases e
    | cons s r' => exact outs_of r (show outsOf ss r' = some outs from e) fun j a d d' h1 h2 h3 => hp (j + 1) a d d' (by simpa using h1) (by simpa using h2) (by simpa using h3)
  | _, _, .l (a := a0) (d := d0) (vs := vs) (ss := ss) g1 g2 g3 r, r', outs, e, hp => by
    cases r' with
    | nil => cases e
    | cons s r' =>
      cases s with
      | bor d1 =>
        obtain ⟨o, e1, e2⟩ := Option.map_eq_some_iff.mp (show (outsOf ss r').map (d1 :: ·) = some outs from e)
        subst e2
        obtain ⟨ob, q1, q2, q3⟩ := hp 0 a0 d0 d1 rfl rfl rfl
        exact .cons q1 q2 q3 (outs_of r e1 fun j a d d' h1 h2 h3 => hp (j + 1) a d d' (by simpa using h1) (by simpa using h2) (by simpa using h3))
      | un => cases e
      | val _ => cases e
      | own _ => cases e
end
/-- a def of the text: what the evaluator runs, what the row has -/
structure Dt where
  df : Df
  args : Arguments
  body : List Stmt
  sc : Scope
abbrev Dt.ps (d : Dt) : List Str := d.df.names.take d.df.np
def ckOf (T : List Dt) (bs : List Str) (gl : List (Str × D)) (N : List Str) : Ck := ⟨N, T.map (·.df.name), bs, gl⟩
def chD (T : List Dt) (bs : List Str) (gl : List (Str × D)) (d : Dt) : Bool := C8.scC d.df.names d.ps d.sc && (decide (d.df.np ≤ d.df.names.length) && chB (ckOf T bs gl d.df.names) d.sc d.df.body d.body)
/-- what is known of the text's names behind its top -/
structure Txt (K : Fg) (mg : Str → Option Value) (T : List Dt) (bs : List Str) (gl : List (Str × D)) (ad : Nat → Addr) (fd : Nat → FuncData) : Prop where
  fns : ∀ (i : Nat) (d : Dt), T[i]? = some d → FunD K d.df.name d.df.name d.args d.body d.sc [] [] (ad i) (fd i) ∧ mg d.df.name = some (.ref (ad i)) ∧ Binds K (fd i) d.ps []
  bs : ∀ x ∈ bs, mg x = none
  gl : ∀ (x : Str) (d : D), gl.lookup x = some d → ∃ (u : Value) (v : V), mg x = some u ∧ RelV v u ∧ Rp K (fun _ => none) v d
theorem start_get {N : List Str} {vs : List V} {i : Nat} {x : V} (h : vs[i]? = some x) : (L2.start N vs)[i]? = some (some x) := by
  unfold L2.start
  have hl := (List.getElem?_eq_some_iff.mp h).1
  rw [List.getElem?_append_left (by simpa using hl), List.getElem?_map, h]
  rfl
theorem start_st {K : Fg} {F H : Hp} {N : List Str} {vs : List V} {ss : List Sl} {n : Nat} (sb : Sub F H) (a : ArgsR K F H vs ss) (nd : (lentA vs ss).Nodup) (hn : n = N.length - vs.length) (hle : vs.length ≤ N.length) :
    StR K ⟨H, fun i a => (L2.start N vs)[i]? = some (some (.ref a))⟩ F H (L2.start N vs) (ss ++ List.replicate n .un) := by
  have gs : ∀ {i : Nat} {s : Sl}, (ss ++ List.replicate n .un)[i]? = some s → s ≠ .un → ss[i]? = some s := fun {i s} h hne => by
    by_cases hi : i < ss.length
    · rw [List.getElem?_append_left hi] at h; exact h
    · rw [List.getElem?_append_right (by omega)] at h
      rw [List.getElem?_replicate] at h
      split at h
      · cases h; exact absurd rfl hne
      · cases h
  have gb : ∀ {i : Nat} {d : D}, ((ss ++ List.replicate n .un)[i]? = some (.own d) ∨ (ss ++ List.replicate n .un)[i]? = some (.bor d)) → ∃ a o, ss[i]? = some (.bor d) ∧ vs[i]? = some (.ref a) ∧ H a = some o ∧ F a = none ∧ ObR K F o d := fun {i d} h => by
    rcases h with h | h
    · rcases a.get i _ (gs h (by simp)) with ⟨_, _, q, _⟩ | ⟨_, _, _, q, _⟩ <;> cases q
    · have h' := gs h (by simp)
      rcases a.get i _ h' with ⟨_, _, q, _⟩ | ⟨_, a, o, q, e2, e3, e4, e5, _⟩
      · cases q
      · cases q
        exact ⟨a, o, h', e2, e3, e4, e5⟩
  refine ⟨sb, fun _ h => h, ?_, fun i d h => ?_, fun i d h => ?_, fun i d p h w => ?_, fun i d p h w => w, fun i j d e p h1 h2 w1 w2 => ?_⟩
  · unfold L2.start
    rw [List.length_append, List.length_append, List.length_map, List.length_replicate, List.length_replicate, ← a.length, hn]
  · rcases a.get i _ (gs h (by simp)) with ⟨d', x, q, e2, e3⟩ | ⟨_, _, _, q, _⟩
    · cases q
      exact ⟨x, start_get e2, e3⟩
    · cases q
  · obtain ⟨p, o, e1, e2, e3, e4, e5⟩ := gb h
    exact ⟨p, o, start_get e2, e3, e4, e5⟩
  · rcases a.get i _ (gs h (by simp)) with ⟨_, _, q, _⟩ | ⟨_, _, _, q, _⟩ <;> cases q
  · obtain ⟨p1, o1, e1, e2, _⟩ := gb h1
    obtain ⟨p2, o2, e3, e4, _⟩ := gb h2
    rw [start_get e2] at w1
    rw [start_get e4] at w2
    cases w1
    cases w2
    exact a.inj nd i j d e p e1 e3 e2 e4
/-- a body's end is the call's end -/
theorem call_end {K : Fg} {F H F' H' : Hp} {N : List Str} {vs : List V} {ss : List Sl} {n : Nat} {σ' : L2.St} {r' : Env} {nw : Bool} {v : D} {outs : List D} {x : V} (a : ArgsR K F H vs ss)
    (g : Go K ⟨H, fun i a => (L2.start N vs)[i]? = some (some (.ref a))⟩ (L2.start N vs) (ss ++ List.replicate n .un) F H σ' r' F' H') (ho : outsOf ss r' = some outs) (tv : TvR K H [] F' H' (if nw = true then .f v else .d v) x) : CallP K F H (lentA vs ss) nw v outs x F' H' := by
  have ow : ∀ p, Own (L2.start N vs) (ss ++ List.replicate n .un) p → ∃ (i : Nat) (d : D), ss[i]? = some (.bor d) ∧ vs[i]? = some (.ref p) ∧ p ∈ lentA vs ss := fun p ⟨i, d, h, w⟩ => by
    have hs : ss[i]? = some (.bor d) := by
      have key : ∀ s : Sl, (ss ++ List.replicate n .un)[i]? = some s → s ≠ .un → ss[i]? = some s := fun s h hne => by
        by_cases hi : i < ss.length
        · rw [List.getElem?_append_left hi] at h; exact h
        · rw [List.getElem?_append_right (by omega), List.getElem?_replicate] at h
          split at h
          · cases h; exact absurd rfl hne
          · cases h
      rcases h with h | h
      · rcases a.get i _ (key _ h (by simp)) with ⟨_, _, q, _⟩ | ⟨_, _, _, q, _⟩ <;> cases q
      · exact key _ h (by simp)
    rcases a.get i _ hs with ⟨_, _, q, _⟩ | ⟨_, a', o, q, e2, _, _, _, hm⟩
    · cases q
    · rw [start_get e2] at w
      cases w
      exact ⟨i, d, hs, e2, hm⟩
  have ob : ∀ (j : Nat) (p : Addr) (d d' : D), vs[j]? = some (.ref p) → ss[j]? = some (.bor d) → r'[j]? = some (.bor d') → ∃ o, H' p = some o ∧ F' p = none ∧ ObR K F' o d' := fun j p d d' h1 h2 h3 => by
    obtain ⟨a', o, e1, e2, e3, e4⟩ := g.st.obj j d' (.inr h3)
    have e5 := g.st.lnt j d' a' h3 e1
    have e6 : (L2.start N vs)[j]? = some (some (.ref a')) := e5
    rw [start_get h1] at e6
    cases e6
    exact ⟨o, e2, e3, e4⟩
  refine ⟨g.st.sub, g.mono, fun p o h n => g.frame p o h fun z => ?_, g.dom, fun p h => ?_, tv, outs_of a ho ob⟩
  · obtain ⟨_, _, _, _, hm⟩ := ow p z
    exact n hm
  · rcases g.fr p h with z | z | z
    · exact .inl z
    · exact .inr z
    · obtain ⟨i, d, h1, h2, _⟩ := ow p z
      obtain ⟨d', h3⟩ := outs_bor ho i d h1
      obtain ⟨o, _, q, _⟩ := ob i p d d' h2 h1 h3
      exact absurd q h
theorem endCall_inv {ss : List Sl} {b : Bool} {v : D} {r' : Env} {fr : Bool} {w : D} {outs : List D} (h : endCall ss b v r' = .ok fr w outs) : b = fr ∧ v = w ∧ outsOf ss r' = some outs := by
  unfold endCall at h
  split at h
  · rename_i os e
    cases h
    exact ⟨rfl, rfl, e⟩
  · cases h
section
variable {P : Program} {w : World} {K : Fg} {mg : Str → Option Value} {base : Heap} {T : List Dt} {bs : List Str} {gl : List (Str × D)} {ad : Nat → Addr} {fd : Nat → FuncData}
/-- every def keeps its promise -/
theorem all_ok (t : Txt K mg T bs gl ad fd) (hch : T.all (chD T bs gl) = true) (W : Nat) : ∀ (n i : Nat) (d : Dt), T[i]? = some d → FnOk P w K mg base L2.CX0 n (ad i) (fd i) d.ps (spOf K (callN (T.map (·.df)) W n i))
  | 0, i, d, hd => ⟨fun vs H Q E ⟨F, ss, _, _, _, fr, v, outs, e, _⟩ => (by cases e), fun A outer s H args us vs Q E hr he hb hv ⟨F, ss, _, _, _, fr, v, outs, e, _⟩ => (by cases e)⟩
  | n + 1, i, d, hd => by
    obtain ⟨F0, _, _⟩ := t.fns i d hd
    have hc : chD T bs gl d = true := List.all_eq_true.mp hch d (List.mem_of_getElem? hd)
    unfold chD at hc
    simp only [Bool.and_eq_true, decide_eq_true_eq] at hc
    obtain ⟨c1, c2, c3⟩ := hc
    have S := C8.fnScope_by c1
    have pl : d.ps.length = d.df.np := by
      show (d.df.names.take d.df.np).length = _
      rw [List.length_take]
      omega
    have run : ∀ (ss : List Sl) (fr : Bool) (v : D) (outs : List D), callN (T.map (·.df)) W (n + 1) i ss = .ok fr v outs → ss.length = d.df.np ∧
        ∃ fl r', evB (callN (T.map (·.df)) W n) W d.df.body (ss ++ List.replicate (d.df.names.length - d.df.np) .un) = .ok fl r' ∧ outsOf ss r' = some outs ∧ ((fl = .nx ∧ fr = false ∧ v = .none) ∨ fl = .ret fr v) := fun ss fr v outs e => by
      have e0 : (T.map (·.df))[i]? = some d.df := by rw [List.getElem?_map, hd]; rfl
      unfold callN at e
      rw [e0] at e
      dsimp only at e
      unfold runDef at e
      split at e
      · rename_i hl
        refine ⟨hl, ?_⟩
        split at e
        · rename_i r' hr
          obtain ⟨h1, h2, h3⟩ := endCall_inv e
          exact ⟨_, _, hr, h3, .inl ⟨rfl, h1.symm, h2.symm⟩⟩
        · rename_i b u r' hr
          obtain ⟨h1, h2, h3⟩ := endCall_inv e
          subst h1 h2
          exact ⟨_, _, hr, h3, .inr rfl⟩
        · cases e
        · cases e
        · cases e
      · cases e
    refine F0.ok S (fun vs H Q E ⟨F, ss, _, a, _, fr, v, outs, e, _⟩ => ?_) fun cdv A outer s H vs Q E hr ⟨F, ss, sb, a, nd, fr, v, outs, e, k⟩ => ?_
    · rw [a.length, (run ss fr v outs e).1, pl]
    · obtain ⟨hl, fl, r', eb, ho, hend⟩ := run ss fr v outs e
      have hvl : vs.length = d.df.np := by rw [a.length, hl]
      refine ⟨RdS K ⟨H, fun i a => (L2.start d.df.names vs)[i]? = some (some (.ref a))⟩ (evB (callN (T.map (·.df)) W n) W d.df.body), PSs.nox ?_, ?_⟩
      · refine okB (ckOf T bs gl d.df.names) (callN (T.map (·.df)) W n) W _ ?_ S.kind ?_ d.df.body d.body c3
        rotate_left
        · exact PassesOwn.never
        refine ⟨rfl, S.nd, rfl, ?_, t.bs, fun j x hx => ?_, t.gl, rfl, fun _ _ => rfl⟩
        · have := hr.un
          show (A.deeper _).units + 65 < cLine
          omega
        · have hx' : (T.map (·.df.name))[j]? = some x := hx
          rw [List.getElem?_map, Option.map_eq_some_iff] at hx'
          obtain ⟨d', hd', rfl⟩ := hx'
          obtain ⟨F1, m1, b1⟩ := t.fns j d' hd'
          exact ⟨n, ad j, fd j, d'.ps, all_ok t hch W n j d' hd', hr, m1, F1.kp, b1⟩
      · refine ⟨F, _, start_st sb a nd (by rw [hvl]) (by rw [hvl]; exact c2), fl, r', eb, fun σ' F' H' g => ?_⟩
        rcases hend with ⟨rfl, rfl, rfl⟩ | rfl
        · exact k .non F' H' (call_end a g ho Rp.non)
        · exact fun x tv => k x F' H' (call_end a g ho tv)
end
end Ev

set_option linter.all false
set_option maxHeartbeats 4000000
/-! The head's facts make the text's. -/
namespace Ev
open PySem PySem.Spec PyProof.Rows L2
def ddOf (d : Dt) : He.DefD := ⟨(d.df.name, none), d.df.name, d.df.name, d.args, d.body, d.sc, [], []⟩
def glFa : Str × D → He.Fa
  | (x, .int i) => .int x i
  | (x, .str z) => .str x z
  | (x, _) => .free x
def glOk : Str × D → Bool
  | (_, .int _) => true
  | (_, .str _) => true
  | _ => false
def faOf (T : List Dt) (bs : List Str) (gl : List (Str × D)) : List He.Fa := T.map (fun d => .glo d.df.name) ++ (bs.map .free ++ gl.map glFa)
def BindOk (d : Dt) : Prop := ∀ (kV doc pm : Value) (an : Option Addr) (cdv ct : Value) (us : List Value), us.length = d.ps.length → bindArgs (PySem.W.fnOf d.df.name d.df.name d.args d.body d.sc .none kV doc pm an cdv ct) ⟨us, []⟩ = pure (d.ps.zip us)
def AllB : List Dt → Prop
  | [] => True
  | d :: T => BindOk d ∧ AllB T
theorem AllB.at : ∀ {T : List Dt}, AllB T → ∀ (i : Nat) (d : Dt), T[i]? = some d → BindOk d
  | [], _, i, d, h => by simp at h
  | e :: T, h, 0, d, q => by
    simp only [List.getElem?_cons_zero, Option.some.injEq] at q
    exact q ▸ h.1
  | e :: T, h, i + 1, d, q => AllB.at h.2 i d (by simpa using q)
theorem lookup_mem {x : Str} {d : D} : ∀ {l : List (Str × D)}, l.lookup x = some d → (x, d) ∈ l
  | [], h => by simp at h
  | (y, e) :: l, h => by
    rw [List.lookup_cons] at h
    split at h
    · rename_i q
      cases h
      rw [eq_of_beq q]
      exact List.mem_cons_self
    · exact List.mem_cons_of_mem _ (lookup_mem h)
section
variable {P : Program} {w : World} {K : Fg} {mg : Str → Option Value} {base : Heap} {T : List Dt} {bs : List Str} {gl : List (Str × D)} {h : Heap}
theorem fact_of {fa : List He.Fa} {fn : List He.DefD} (c : He.SaysD fa fn K) {f : He.Fa} (hf : f ∈ fa) : f.ok K = true := by
  obtain ⟨i, hi⟩ := List.getElem?_of_mem hf
  exact c.fact i hi
theorem txt_of (X : K.In h) (G : h.Ns mainGlobals mg) (hbn : AllB T) (hgl : gl.all glOk = true) (c : He.SaysD (faOf T bs gl) (T.map ddOf) K) : ∃ ad fd, Txt K mg T bs gl ad fd := by
  have one : ∀ i : Nat, ∃ p : Addr × FuncData, ∀ d : Dt, T[i]? = some d → FunD K d.df.name d.df.name d.args d.body d.sc [] [] p.1 p.2 ∧ mg d.df.name = some (.ref p.1) ∧ Binds K p.2 d.ps [] := fun i => by
    cases q : T[i]? with
    | none => exact ⟨(0, default), fun d hd => by cases hd⟩
    | some d =>
      have e : (T.map ddOf)[i]? = some (ddOf d) := by rw [List.getElem?_map, q]; rfl
      obtain ⟨fd, F⟩ := c.def_ i e
      have F' : FunD K d.df.name d.df.name d.args d.body d.sc [] [] (He.fAd K (d.df.name, none)) fd := F
      refine ⟨(He.fAd K (d.df.name, none), fd), fun d' hd' => ?_⟩
      cases hd'
      refine ⟨F', He.glo_ok X G (fact_of c ?_), F'.bindsN fun kV doc pm an cdv ct us hl => hbn.at i d q kV doc pm an cdv ct us hl⟩
      exact List.mem_append_left _ (List.mem_map.mpr ⟨d, List.mem_of_getElem? q, rfl⟩)
  obtain ⟨f, hf⟩ := Classical.skolem.mp one
  refine ⟨fun i => (f i).1, fun i => (f i).2, fun i d hd => hf i d hd, fun x hx => He.free_ok X G (fact_of c ?_), fun x d hd => ?_⟩
  · exact List.mem_append_right _ (List.mem_append_left _ (List.mem_map.mpr ⟨x, hx, rfl⟩))
  · have hm := lookup_mem hd
    have hfm : glFa (x, d) ∈ faOf T bs gl := List.mem_append_right _ (List.mem_append_right _ (List.mem_map.mpr ⟨_, hm, rfl⟩))
    have hg := List.all_eq_true.mp hgl _ hm
    cases d with
    | int i =>
      obtain ⟨t, ht⟩ := He.int_ok X G (fact_of c hfm)
      exact ⟨_, .int i, ht, ⟨t, rfl⟩, .int i⟩
    | str s =>
      obtain ⟨t, ht⟩ := He.str_ok X G (fact_of c hfm)
      exact ⟨_, .str s, ht, ⟨t, rfl⟩, .str s⟩
    | _ => simp [glOk] at hg
def scriptD (ns : List Int) : D := .dict [(.none, .list (ns.map .int))]
/-- the law's promise: true, whatever the script -/
def spLaw (K : Fg) : Sp := fun vs H Q _ => ∃ (a : Addr) (ns : List Int), vs = [.ref a] ∧ ns.length ≤ 63 ∧ SqL K H a (ns.map V.int) ∧ ∀ H', Q (.bl true) H'
theorem sp_law {cf : List Sl → CR} (pure : ∀ ns : List Int, ns.length ≤ 63 → cf [.val (scriptD ns)] = .ok false (.bool true) []) (vs : List V) (H : Hp) (Q : VK) (E : XK) (hq : spLaw K vs H Q E) : spOf K cf vs H Q E := by
  obtain ⟨a, ns, rfl, hn, hS, k⟩ := hq
  have hr : RpL K H (ns.map V.int) (ns.map PyData.int) := RpL.of V.int PyData.int (fun i => .int i) ns
  refine ⟨H, [.val (scriptD ns)], Sub.refl _, .v (.scr hS hr) .nil, ?_, false, .bool true, [], pure ns hn, fun x F' H' p => ?_⟩
  · exact List.nodup_nil
  · have v : Rp K F' x (.bool true) := p.value
    cases v
    exact k H'
theorem facts_of {f : Addr} {W n il : Nat} (hT : T.all (chD T bs gl) = true) (hbn : AllB T) (hgl : gl.all glOk = true) {d : Dt} (hd : T[il]? = some d) {y : Str} (hps : d.ps = [y]) (pure : ∀ ns : List Int, ns.length ≤ 63 → callN (T.map (·.df)) W n il [.val (scriptD ns)] = .ok false (.bool true) [])
    (X : K.In h) (G : h.Ns mainGlobals mg) (hfa : mg d.df.name = some (.ref f)) (c : He.SaysD (faOf T bs gl) (T.map ddOf) K) :
    ∃ fd : FuncData, (∀ (s : Shared) (v : Value), BindsTo s fd ⟨[v], []⟩ [(y, v)]) ∧ ∀ base : Heap, K.In base → base.Ns mainGlobals mg → FnOk P w K mg base L2.CX0 n f fd [y] (spLaw K) := by
  obtain ⟨ad, fd, t⟩ := txt_of X G hbn hgl c
  obtain ⟨F, m, _⟩ := t.fns il d hd
  have e := hfa.symm.trans m
  cases e
  refine ⟨fd il, fun s v => ?_, fun base _ _ => ?_⟩
  · have := FunD.bindsA (ps := d.ps) F (fun kV doc pm an cdv ct us hl => hbn.at il d hd kV doc pm an cdv ct us hl) s [v] (by rw [hps]; rfl)
    rw [hps] at this
    exact this
  · have := all_ok (P := P) (w := w) (base := base) t hT W n il d hd
    rw [hps] at this
    exact this.imp (sp_law pure)
end
end Ev

set_option linter.all false
set_option maxHeartbeats 4000000
/-! Rules that run the evaluator on symbols. -/
namespace Ev
open PySem
theorem ite_b {α : Type} {t : Bool} {a b : α} : (match t with
    | true => a
    | false => b) = if t = true then a else b := by cases t <;> rfl
@[simp] theorem bind_ok' {α β : Type} (a : α) (r : Env) (f : α → Env → Res β) : (Res.ok a r).bind f = f a r := rfl
@[simp] theorem bind_stuck' {α β : Type} (f : α → Env → Res β) : (Res.stuck : Res α).bind f = .stuck := rfl
@[simp] theorem bind_ite {α β : Type} {c : Prop} [Decidable c] (a b : Res α) (f : α → Env → Res β) : (if c then a else b).bind f = if c then a.bind f else b.bind f := by split <;> rfl
@[simp] theorem of_some' {α : Type} (a : α) (r : Env) : Res.of (some a) r = .ok a r := rfl
@[simp] theorem of_none' {α : Type} (r : Env) : Res.of (none : Option α) r = .stuck := rfl
@[simp] theorem of_ite {α : Type} {c : Prop} [Decidable c] (a b : Option α) (r : Env) : Res.of (if c then a else b) r = if c then .of a r else .of b r := by split <;> rfl
def slD : Option Sl → Option D
  | some (.val d) => some d
  | some (.own d) => some d
  | some (.bor d) => some d
  | _ => none
@[simp] theorem slD_val (d : D) : slD (some (.val d)) = some d := rfl
@[simp] theorem slD_own (d : D) : slD (some (.own d)) = some d := rfl
@[simp] theorem slD_bor (d : D) : slD (some (.bor d)) = some d := rfl
@[simp] theorem deref_d (r : Env) (v : D) : deref r (.d v) = some v := rfl
@[simp] theorem deref_f (r : Env) (v : D) : deref r (.f v) = some v := rfl
@[simp] theorem deref_s (r : Env) (i : Nat) : deref r (.s i) = slD r[i]? := rfl
def truS : Option D → Env → Res Bool
  | some u, r => .of (truth u) r
  | none, _ => .stuck
def tru (x : TV) (r : Env) : Res Bool := truS (deref r x) r
@[simp] theorem tru_eq (x : TV) (r : Env) : tru x r = truS (deref r x) r := rfl
@[simp] theorem truS_some (u : D) (r : Env) : truS (some u) r = .of (truth u) r := rfl
@[simp] theorem truth_bool (b : Bool) : truth (.bool b) = some b := rfl
@[simp] theorem truth_int (i : Int) : truth (.int i) = some (i != 0) := rfl
@[simp] theorem truth_list (l : List D) : truth (.list l) = some (!l.isEmpty) := rfl
@[simp] theorem truth_tuple (l : List D) : truth (.tuple l) = some (!l.isEmpty) := rfl
def un1S (f : D → Option TV) : Option D → Env → Res TV
  | some u, r => .of (f u) r
  | none, _ => .stuck
def bi2S (f : D → D → Option TV) : Option D → Option D → Env → Res TV
  | some u, some v, r => .of (f u v) r
  | _, _, _ => .stuck
@[simp] theorem un1S_some (f : D → Option TV) (u : D) (r : Env) : un1S f (some u) r = .of (f u) r := rfl
@[simp] theorem bi2S_some (f : D → D → Option TV) (u v : D) (r : Env) : bi2S f (some u) (some v) r = .of (f u v) r := rfl
def andK (x : TV) (r : Env) (k : Env → Res TV) : Res TV := match x with
  | .d (.bool true) => k r
  | .d (.bool false) => .ok (.d (.bool false)) r
  | _ => .stuck
def orK (x : TV) (r : Env) (k : Env → Res TV) : Res TV := match x with
  | .d (.bool true) => .ok (.d (.bool true)) r
  | .d (.bool false) => k r
  | _ => .stuck
@[simp] theorem andK_b (b : Bool) (r : Env) (k : Env → Res TV) : andK (.d (.bool b)) r k = if b = true then k r else .ok (.d (.bool false)) r := by cases b <;> rfl
@[simp] theorem orK_b (b : Bool) (r : Env) (k : Env → Res TV) : orK (.d (.bool b)) r k = if b = true then .ok (.d (.bool true)) r else k r := by cases b <;> rfl
def negK (x : TV) (r : Env) : Res TV := match x with
  | .d (.int i) => .ok (.d (.int (-i))) r
  | _ => .stuck
@[simp] theorem negK_i (i : Int) (r : Env) : negK (.d (.int i)) r = .ok (.d (.int (-i))) r := rfl
def varK : Option Sl → Nat → Env → Res TV
  | some (.val d), _, r => .ok (.d d) r
  | some (.own _), i, r => .ok (.s i) r
  | some (.bor _), i, r => .ok (.s i) r
  | _, _, _ => .stuck
@[simp] theorem varK_val (d : D) (i : Nat) (r : Env) : varK (some (.val d)) i r = .ok (.d d) r := rfl
@[simp] theorem varK_own (d : D) (i : Nat) (r : Env) : varK (some (.own d)) i r = .ok (.s i) r := rfl
@[simp] theorem varK_bor (d : D) (i : Nat) (r : Env) : varK (some (.bor d)) i r = .ok (.s i) r := rfl
def solS : Option Sl → Nat → Env → Res D
  | some (.val d), _, r => .ok d r
  | some (.own d), i, r => .ok d (r.set i (.val d))
  | _, _, _ => .stuck
@[simp] theorem solS_val (d : D) (i : Nat) (r : Env) : solS (some (.val d)) i r = .ok d r := rfl
@[simp] theorem solS_own (d : D) (i : Nat) (r : Env) : solS (some (.own d)) i r = .ok d (r.set i (.val d)) := rfl
@[simp] theorem sol_d (r : Env) (v : D) : solidR r (.d v) = .ok v r := rfl
@[simp] theorem sol_f (r : Env) (v : D) : solidR r (.f v) = .ok v r := rfl
@[simp] theorem sol_s (r : Env) (i : Nat) : solidR r (.s i) = solS r[i]? i r := by
  unfold solidR solid
  dsimp only
  generalize r[i]? = o
  cases o with
  | none => rfl
  | some s => cases s <;> rfl
def muS : Option Sl → Option D
  | some (.own d) => some d
  | some (.bor d) => some d
  | _ => none
@[simp] theorem muS_own (d : D) : muS (some (.own d)) = some d := rfl
@[simp] theorem muS_bor (d : D) : muS (some (.bor d)) = some d := rfl
@[simp] theorem mutAt_eq (r : Env) (i : Nat) : mutAt r i = muS r[i]? := by
  unfold mutAt
  cases h : r[i]? with
  | none => rfl
  | some s => cases s <;> rfl
/-! operators -/
section
variable (i j : Int) (x y : Str) (k l : List D) (a b : D)
@[simp] theorem bop_add : bop .add (.int i) (.int j) = some (.d (.int (i + j))) := rfl
@[simp] theorem bop_sub : bop .sub (.int i) (.int j) = some (.d (.int (i - j))) := rfl
@[simp] theorem bop_mul : bop .mul (.int i) (.int j) = if mulOk i j = true then some (.d (.int (i * j))) else none := rfl
@[simp] theorem bop_div : bop .div (.int i) (.int j) = if 0 < j ∧ j < 1073741824 then some (.d (.int (i / j))) else none := rfl
@[simp] theorem bop_mod : bop .mod (.int i) (.int j) = if 0 < j then some (.d (.int (i % j))) else none := rfl
@[simp] theorem bop_tup : bop .add (.tuple k) (.tuple l) = if k.length + l.length ≤ SZ then some (.d (.tuple (k ++ l))) else none := rfl
@[simp] theorem bop_lst : bop .add (.list k) (.list l) = if k.length + l.length ≤ SZ then some (.f (.list (k ++ l))) else none := rfl
@[simp] theorem cop_lt : cop .lt (.int i) (.int j) = some (decide (i < j)) := rfl
@[simp] theorem cop_le : cop .le (.int i) (.int j) = some (decide (i ≤ j)) := rfl
@[simp] theorem cop_gt : cop .gt (.int i) (.int j) = some (decide (j < i)) := rfl
@[simp] theorem cop_ge : cop .ge (.int i) (.int j) = some (decide (j ≤ i)) := rfl
@[simp] theorem cop_eqi : cop .eq (.int i) (.int j) = some (decide (i = j)) := by
  show (if eqOk (.int i) (.int j) = true then some (PyData.eqv (.int i) (.int j)) else none) = _
  refine (if_pos rfl).trans ?_
  simp [PyData.eqv]
  try rfl
@[simp] theorem cop_eqs : cop .eq (.str x) (.str y) = some (decide (x = y)) := by
  show (if eqOk (.str x) (.str y) = true then some (PyData.eqv (.str x) (.str y)) else none) = _
  refine (if_pos rfl).trans ?_
  simp [PyData.eqv]
  try rfl
@[simp] theorem cop_nei : cop .ne (.int i) (.int j) = some (!decide (i = j)) := by
  show (if eqOk (.int i) (.int j) = true then some (!PyData.eqv (.int i) (.int j)) else none) = _
  refine (if_pos rfl).trans ?_
  simp [PyData.eqv]
  try rfl
@[simp] theorem cop_nes : cop .ne (.str x) (.str y) = some (!decide (x = y)) := by
  show (if eqOk (.str x) (.str y) = true then some (!PyData.eqv (.str x) (.str y)) else none) = _
  refine (if_pos rfl).trans ?_
  simp [PyData.eqv]
  try rfl
@[simp] theorem cop_is (u v : D) : cop .is u v = isOf u v := by cases u <;> cases v <;> rfl
@[simp] theorem cop_isNot (u v : D) : cop .isNot u v = (isOf u v).map (!·) := by cases u <;> cases v <;> rfl
@[simp] theorem cop_in (u v : D) : cop .inn u v = inOf u v := by cases u <;> cases v <;> rfl
@[simp] theorem is_bb (p q : Bool) : isOf (.bool p) (.bool q) = some (p == q) := rfl
end
/-! expressions -/
section
variable (call : Nat → List Sl → CR) (r : Env)
@[simp] theorem e_none : (ev call (.cst .none)).1 r = .ok (.d .none) r := rfl
@[simp] theorem e_bool (b : Bool) : (ev call (.cst (.bool b))).1 r = .ok (.d (.bool b)) r := rfl
@[simp] theorem e_int (i : Int) : (ev call (.cst (.int i))).1 r = .ok (.d (.int i)) r := rfl
@[simp] theorem e_str (x : Str) : (ev call (.cst (.str x))).1 r = .ok (.d (.str x)) r := rfl
@[simp] theorem e_var (i : Nat) : (ev call (.var i)).1 r = varK r[i]? i r := by
  show (match r[i]? with
    | some (.val d) => Res.ok (TV.d d) r
    | some (.own _) => .ok (.s i) r
    | some (.bor _) => .ok (.s i) r
    | _ => .stuck) = _
  cases h : r[i]? with
  | none => rfl
  | some s => cases s <;> rfl
@[simp] theorem e_glob (x : Str) (d : D) : (ev call (.glob x d)).1 r = .ok (.d d) r := rfl
@[simp] theorem e_bin (o : Bo) (a b : IE) : (ev call (.bin o a b)).1 r = ((ev call a).1 r).bind fun x r1 => ((ev call b).1 r1).bind fun y r2 => bi2S (bop o) (deref r2 x) (deref r2 y) r2 := by
  show Res.bind _ _ = _
  congr; funext x r1; congr; funext y r2
  cases deref r2 x <;> cases deref r2 y <;> rfl
@[simp] theorem e_neg (a : IE) : (ev call (.neg a)).1 r = ((ev call a).1 r).bind negK := rfl
@[simp] theorem e_cmp (o : Co) (a b : IE) : (ev call (.cmp o a b)).1 r = ((ev call a).1 r).bind fun x r1 => ((ev call b).1 r1).bind fun y r2 => bi2S (fun u v => (cop o u v).map fun t => .d (.bool t)) (deref r2 x) (deref r2 y) r2 := by
  show Res.bind _ _ = _
  congr; funext x r1; congr; funext y r2
  cases deref r2 x <;> cases deref r2 y <;> rfl
def chnS (o : Co) : Option D → Option D → Env → (Env → Res TV) → Res TV
  | some u, some v, r, k => match cop o u v with
    | some true => k r
    | some false => .ok (.d (.bool false)) r
    | none => .stuck
  | _, _, _, _ => .stuck
@[simp] theorem chnS_some (o : Co) (u v : D) (b : Bool) (k : Env → Res TV) (h : cop o u v = some b) : chnS o (some u) (some v) r k = if b = true then k r else .ok (.d (.bool false)) r := by
  show (match cop o u v with | some true => k r | some false => .ok (.d (.bool false)) r | none => .stuck) = _
  rw [h]
  cases b <;> rfl
@[simp] theorem e_chn (o p : Co) (a b c : IE) : (ev call (.chn o p a b c)).1 r = ((ev call a).1 r).bind fun x r1 => ((ev call b).1 r1).bind fun y r2 => chnS o (deref r2 x) (deref r2 y) r2 fun r2 => ((ev call c).1 r2).bind fun z r3 => bi2S (fun u v => (cop p u v).map fun t => .d (.bool t)) (deref r3 y) (deref r3 z) r3 := by
  show Res.bind _ _ = _
  congr; funext x r1; congr; funext y r2
  cases h1 : deref r2 x with
  | none => cases deref r2 y <;> rfl
  | some u =>
    cases h2 : deref r2 y with
    | none => rfl
    | some v =>
      show (match cop o u v with | some true => _ | some false => _ | none => _) = (match cop o u v with | some true => _ | some false => _ | none => _)
      cases cop o u v with
      | none => rfl
      | some b =>
        cases b with
        | false => rfl
        | true =>
          show Res.bind _ _ = Res.bind _ _
          congr; funext z r3
          cases deref r3 y <;> cases deref r3 z <;> rfl
@[simp] theorem e_not (a : IE) : (ev call (.not a)).1 r = (((ev call a).1 r).bind tru).bind fun t r1 => .ok (.d (.bool (!t))) r1 := by
  show Res.bind (Res.bind _ _) _ = _
  congr; funext x r1
  show (match deref r1 x with | some u => Res.of (truth u) r1 | none => .stuck) = truS (deref r1 x) r1
  cases deref r1 x <;> rfl
@[simp] theorem e_and (a b : IE) : (ev call (.and a b)).1 r = ((ev call a).1 r).bind fun x r1 => andK x r1 (ev call b).1 := rfl
@[simp] theorem e_or (a b : IE) : (ev call (.or a b)).1 r = ((ev call a).1 r).bind fun x r1 => orK x r1 (ev call b).1 := rfl
@[simp] theorem e_ife (c a b : IE) : (ev call (.ife c a b)).1 r = ((ev call c).2 r).bind fun t r1 => if t = true then (ev call a).1 r1 else (ev call b).1 r1 := by
  show Res.bind _ _ = _
  congr; funext t r1; cases t <;> rfl
@[simp] theorem e_tup (l : IA) : (ev call (.tup l)).1 r = (evA call l r).bind fun xs r1 => if xs.length ≤ SZ then .ok (.d (.tuple xs)) r1 else .stuck := rfl
@[simp] theorem e_lst (l : IA) : (ev call (.lst l)).1 r = (evA call l r).bind fun xs r1 => if xs.length ≤ SZ then .ok (.f (.list xs)) r1 else .stuck := rfl
@[simp] theorem e_idx (a b : IE) : (ev call (.idx a b)).1 r = ((ev call a).1 r).bind fun x r1 => ((ev call b).1 r1).bind fun y r2 => bi2S (fun u v => (idx u v).map .d) (deref r2 x) (deref r2 y) r2 := by
  show Res.bind _ _ = _
  congr; funext x r1; congr; funext y r2
  cases deref r2 x <;> cases deref r2 y <;> rfl
@[simp] theorem e_isi (a : IE) (t : Ty) : (ev call (.isi a t)).1 r = ((ev call a).1 r).bind fun x r1 => un1S (fun u => if notDict u = true then some (.d (.bool (isTy t u))) else none) (deref r1 x) r1 := by
  show Res.bind _ _ = _
  congr; funext x r1
  cases deref r1 x with
  | none => rfl
  | some u =>
    show (if notDict u = true then Res.ok (TV.d (.bool (isTy t u))) r1 else .stuck) = Res.of (if notDict u = true then _ else _) r1
    split <;> rfl
@[simp] theorem e_bl1 (b : B1) (a : IE) : (ev call (.bl1 b a)).1 r = ((ev call a).1 r).bind fun x r1 => un1S (b1 b) (deref r1 x) r1 := by
  show Res.bind _ _ = _
  congr; funext x r1
  cases deref r1 x <;> rfl
@[simp] theorem e_bl2 (b : B2) (a c : IE) : (ev call (.bl2 b a c)).1 r = ((ev call a).1 r).bind fun x r1 => ((ev call c).1 r1).bind fun y r2 => bi2S (fun u v => (b2 b u v).map .d) (deref r2 x) (deref r2 y) r2 := by
  show Res.bind _ _ = _
  congr; funext x r1; congr; funext y r2
  cases deref r2 x <;> cases deref r2 y <;> rfl
/-- behind a call -/
def callK : CR → List Nat → Env → Res TV
  | .ok fr v outs, L, r => match outsE L outs r with
    | some r' => .ok (if fr then .f v else .d v) r'
    | none => .stuck
  | .exc c d, L, r => if L = [] then .exc c d r else .stuck
  | .stuck, _, _ => .stuck
@[simp] theorem callK_v (v : D) : callK (.ok false v []) [] r = .ok (.d v) r := rfl
@[simp] theorem callK_f (v : D) : callK (.ok true v []) [] r = .ok (.f v) r := rfl
@[simp] theorem callK_v1 (v d : D) (i : Nat) : callK (.ok false v [d]) [i] r = .ok (.d v) (setAt r i d) := rfl
@[simp] theorem callK_f1 (v d : D) (i : Nat) : callK (.ok true v [d]) [i] r = .ok (.f v) (setAt r i d) := rfl
@[simp] theorem callK_v2 (v d e : D) (i j : Nat) : callK (.ok false v [d, e]) [i, j] r = .ok (.d v) (setAt (setAt r i d) j e) := rfl
def argK (o : Option (List Sl)) (L : List Nat) (f : Nat) (r : Env) : Res TV := match o with
  | some ss => if L.Nodup then callK (call f ss) L r else .stuck
  | none => .stuck
@[simp] theorem argK_some (ss : List Sl) (L : List Nat) (f : Nat) : argK call (some ss) L f r = if L.Nodup then callK (call f ss) L r else .stuck := rfl
theorem doCall_eq (f : Nat) (as : List Ar) : doCall call f as r = argK call (argsS r as) (lends as) f r := by
  unfold doCall argK
  cases argsS r as with
  | none => rfl
  | some ss =>
    show (if (lends as).Nodup then _ else _) = (if (lends as).Nodup then _ else _)
    split
    · cases call f ss <;> rfl
    · rfl
@[simp] theorem e_call (f : Nat) (x : Str) (l : IA) : (ev call (.call f x l)).1 r = (evR call l r).bind fun as r1 => argK call (argsS r1 as) (lends as) f r1 := by
  show Res.bind _ _ = _
  congr; funext as r1
  exact doCall_eq call r1 f as
@[simp] theorem argsS_nil : argsS r [] = some [] := rfl
@[simp] theorem argsS_v (d : D) (l : List Ar) : argsS r (.v d :: l) = (argsS r l).map (.val d :: ·) := rfl
@[simp] theorem argsS_l (i : Nat) (l : List Ar) : argsS r (.l i :: l) = ((mutAt r i).map Sl.bor).bind fun s => (argsS r l).map (s :: ·) := rfl
@[simp] theorem lends_nil : lends [] = [] := rfl
@[simp] theorem lends_v (d : D) (l : List Ar) : lends (.v d :: l) = lends l := rfl
@[simp] theorem lends_l (i : Nat) (l : List Ar) : lends (.l i :: l) = i :: lends l := rfl
@[simp] theorem a_nil : evA call .nil r = .ok [] r := rfl
@[simp] theorem a_cons (a : IE) (l : IA) : evA call (.cons a l) r = ((ev call a).1 r).bind fun x r1 => (solidR r1 x).bind fun v r2 => (evA call l r2).bind fun vs r3 => .ok (v :: vs) r3 := rfl
@[simp] theorem r_nil : evR call .nil r = .ok [] r := rfl
@[simp] theorem r_cons (a : IE) (l : IA) : evR call (.cons a l) r = ((ev call a).1 r).bind fun x r1 => (solidR r1 x).bind fun v r2 => (evR call l r2).bind fun vs r3 => .ok (.v v :: vs) r3 := rfl
def lendK : Option D → Env → (Env → Res (List Ar)) → Res (List Ar)
  | some _, r, k => k r
  | none, _, _ => .stuck
@[simp] theorem lendK_some (d : D) (k : Env → Res (List Ar)) : lendK (some d) r k = k r := rfl
@[simp] theorem r_lend (i : Nat) (l : IA) : evR call (.lend i l) r = lendK (mutAt r i) r fun r => (evR call l r).bind fun vs r1 => .ok (.l i :: vs) r1 := by
  show (match mutAt r i with | some _ => _ | none => _) = _
  cases mutAt r i <;> rfl
@[simp] theorem o_no : evO call .no r = .ok none r := rfl
def derK : Option D → Env → Res (Option D)
  | some u, r => .ok (some u) r
  | none, _ => .stuck
@[simp] theorem derK_some (u : D) : derK (some u) r = .ok (some u) r := rfl
@[simp] theorem o_yes (a : IE) : evO call (.yes a) r = ((ev call a).1 r).bind fun x r1 => derK (deref r1 x) r1 := by
  show Res.bind _ _ = _
  congr; funext x r1
  cases deref r1 x <;> rfl
@[simp] theorem t_no : evT call .no r = .ok true r := rfl
@[simp] theorem t_yes (a : IE) : evT call (.yes a) r = (ev call a).2 r := rfl
@[simp] theorem i_val (a : IE) : evI call (.val a) r = ((ev call a).1 r).bind fun x r1 => (solidR r1 x).bind fun v r2 => .of (itemsOf v) r2 := rfl
def slS : Option D → Option (Option Int) → Option (Option Int) → Env → Res TV
  | some u, some l, some h, r => .of (slice l h u) r
  | _, _, _, _ => .stuck
@[simp] theorem slS_some (u : D) (l h : Option Int) : slS (some u) (some l) (some h) r = .of (slice l h u) r := rfl
@[simp] theorem e_slc (a : IE) (lo hi : IO) : (ev call (.slc a lo hi)).1 r = ((ev call a).1 r).bind fun x r1 => (evO call lo r1).bind fun l r2 => (evO call hi r2).bind fun h r3 => slS (deref r3 x) (optI l) (optI h) r3 := by
  show Res.bind _ _ = _
  congr; funext x r1; congr; funext l r2; congr; funext h r3
  generalize deref r3 x = o1
  generalize optI l = o2
  generalize optI h = o3
  cases o1 <;> cases o2 <;> cases o3 <;> rfl
@[simp] theorem opt_none : optI none = some none := rfl
@[simp] theorem opt_int (i : Int) : optI (some (.int i)) = some (some i) := rfl
@[simp] theorem slice_list (lo hi : Option Int) (xs : List D) : slice lo hi (.list xs) = some (.f (.list (cut xs lo hi))) := rfl
@[simp] theorem slice_tup (lo hi : Option Int) (xs : List D) : slice lo hi (.tuple xs) = some (.d (.tuple (cut xs lo hi))) := rfl
theorem cut_take {α : Type} (xs : List α) (n : Nat) (h : n ≤ xs.length) : cut xs none (some (n : Int)) = xs.take n := by
  have h1 : ¬ (n : Int) < 0 := by omega
  have h2 : min n xs.length = n := by omega
  simp [cut, sIx, h1, h2]
@[simp] theorem e_dsp (ks : List Const) (l : IA) : (ev call (.dsp ks l)).1 r = (evA call l r).bind fun vs r1 => .of ((dispD ks vs).map fun ps => .f (.dict ps)) r1 := by
  show Res.bind _ _ = _
  congr; funext vs r1
  cases dispD ks vs <;> rfl
def dicS : Option D → Env → (Env → Res TV) → Res TV
  | some u, r, k => if isDict u = true then k r else .stuck
  | none, _, _ => .stuck
@[simp] theorem dicS_some (u : D) (k : Env → Res TV) : dicS (some u) r k = if isDict u = true then k r else .stuck := rfl
theorem dic_eq (x : TV) (r : Env) (k : Env → Res TV) : ((dictR r x).bind fun _ r1 => k r1) = dicS (deref r x) r k := by
  unfold dictR
  cases deref r x with
  | none => rfl
  | some u =>
    show Res.bind (if isDict u = true then _ else _) _ = if isDict u = true then _ else _
    split <;> rfl
@[simp] theorem e_mg2 (o k d : IE) : (ev call (.mg2 o k d)).1 r = ((ev call o).1 r).bind fun x r1 => dicS (deref r1 x) r1 fun r1 => ((ev call k).1 r1).bind fun y r2 => ((ev call d).1 r2).bind fun z r3 => (solidR r3 z).bind fun w r4 =>
      bi2S (fun u v => (getD1 u v).map fun t => .d (t.getD w)) (deref r4 x) (deref r4 y) r4 := by
  show Res.bind _ _ = _
  congr; funext x r1
  rw [← dic_eq]
  congr; funext _ r1; congr; funext y r2; congr; funext z r3; congr; funext w r4
  cases deref r4 x <;> cases deref r4 y <;> rfl
def rgK : Option D → Env → Res (List D)
  | some (.int j), r => if small62 j = true then .ok (rng 0 j.toNat) r else .stuck
  | _, _ => .stuck
@[simp] theorem rgK_i (j : Int) : rgK (some (.int j)) r = if small62 j = true then .ok (rng 0 j.toNat) r else .stuck := rfl
@[simp] theorem i_rg1 (a : IE) : evI call (.rg1 a) r = ((ev call a).1 r).bind fun x r1 => rgK (deref r1 x) r1 := by
  show Res.bind _ _ = _
  congr; funext x r1
  generalize deref r1 x = o
  cases o with
  | none => rfl
  | some u => cases u <;> rfl
def rgK2 : Option D → Option D → Env → Res (List D)
  | some (.int i), some (.int j), r => if (small62 i && small62 j) = true then .ok (rng i (j - i).toNat) r else .stuck
  | _, _, _ => .stuck
@[simp] theorem rgK2_i (i j : Int) : rgK2 (some (.int i)) (some (.int j)) r = if (small62 i && small62 j) = true then .ok (rng i (j - i).toNat) r else .stuck := rfl
@[simp] theorem i_rg2 (a b : IE) : evI call (.rg2 a b) r = ((ev call a).1 r).bind fun x r1 => ((ev call b).1 r1).bind fun y r2 => rgK2 (deref r2 x) (deref r2 y) r2 := by
  show Res.bind _ _ = _
  congr; funext x r1; congr; funext y r2
  generalize deref r2 x = o
  generalize deref r2 y = o2
  cases o with
  | none => rfl
  | some u =>
    cases o2 with
    | none => cases u <;> rfl
    | some v => cases u <;> cases v <;> rfl
def enK : Option (List D) → Env → Res (List D)
  | some xs, r => .ok (enumD 0 xs) r
  | none, _ => .stuck
@[simp] theorem enK_some (xs : List D) : enK (some xs) r = .ok (enumD 0 xs) r := rfl
@[simp] theorem i_enm (a : IE) : evI call (.enm a) r = ((ev call a).1 r).bind fun x r1 => (solidR r1 x).bind fun v r2 => enK (listOf v) r2 := by
  show Res.bind _ _ = _
  congr; funext x r1; congr; funext v r2
  cases v <;> rfl
def zpK : Option (List D) → Option (List D) → Env → Res (List D)
  | some xs, some ys, r => .ok (zipD xs ys) r
  | _, _, _ => .stuck
@[simp] theorem zpK_some (xs ys : List D) : zpK (some xs) (some ys) r = .ok (zipD xs ys) r := rfl
@[simp] theorem i_zip (a b : IE) : evI call (.zip a b) r = ((ev call a).1 r).bind fun x r1 => (solidR r1 x).bind fun v r2 => ((ev call b).1 r2).bind fun y r3 => (solidR r3 y).bind fun w r4 => zpK (listOf v) (listOf w) r4 := by
  show Res.bind _ _ = _
  congr; funext x r1; congr; funext v r2; congr; funext y r3; congr; funext w r4
  cases v <;> cases w <;> rfl
/-! tests -/
theorem t_eq {f : Env → Res TV} : (tst f).2 r = (f r).bind tru := by
  show Res.bind _ _ = _
  congr; funext x r1
  show (match deref r1 x with | some u => Res.of (truth u) r1 | none => .stuck) = truS (deref r1 x) r1
  cases deref r1 x <;> rfl
@[simp] theorem c_cst (d : Const) : (ev call (.cst d)).2 r = ((ev call (.cst d)).1 r).bind tru := t_eq r
@[simp] theorem c_var (i : Nat) : (ev call (.var i)).2 r = ((ev call (.var i)).1 r).bind tru := t_eq r
@[simp] theorem c_cmp (o : Co) (a b : IE) : (ev call (.cmp o a b)).2 r = ((ev call (.cmp o a b)).1 r).bind tru := t_eq r
@[simp] theorem c_chn (o p : Co) (a b c : IE) : (ev call (.chn o p a b c)).2 r = ((ev call (.chn o p a b c)).1 r).bind tru := t_eq r
@[simp] theorem c_isi (a : IE) (t : Ty) : (ev call (.isi a t)).2 r = ((ev call (.isi a t)).1 r).bind tru := t_eq r
@[simp] theorem c_call (f : Nat) (x : Str) (l : IA) : (ev call (.call f x l)).2 r = ((ev call (.call f x l)).1 r).bind tru := t_eq r
@[simp] theorem c_bl1 (b : B1) (a : IE) : (ev call (.bl1 b a)).2 r = ((ev call (.bl1 b a)).1 r).bind tru := t_eq r
@[simp] theorem c_not (a : IE) : (ev call (.not a)).2 r = ((ev call a).2 r).bind fun t r1 => .ok (!t) r1 := rfl
@[simp] theorem c_and (a b : IE) : (ev call (.and a b)).2 r = ((ev call a).2 r).bind fun t r1 => if t = true then (ev call b).2 r1 else .ok false r1 := by
  show Res.bind _ _ = _
  congr; funext t r1; cases t <;> rfl
@[simp] theorem c_or (a b : IE) : (ev call (.or a b)).2 r = ((ev call a).2 r).bind fun t r1 => if t = true then .ok true r1 else (ev call b).2 r1 := by
  show Res.bind _ _ = _
  congr; funext t r1; cases t <;> rfl
@[simp] theorem c_ife (c a b : IE) : (ev call (.ife c a b)).2 r = ((ev call c).2 r).bind fun t r1 => if t = true then (ev call a).2 r1 else (ev call b).2 r1 := by
  show Res.bind _ _ = _
  congr; funext t r1; cases t <;> rfl
/-! statements -/
variable (W : Nat)
def seqK (m : Res Fl) (k : Env → Res Fl) : Res Fl := match m with
  | .ok .nx r1 => k r1
  | o => o
@[simp] theorem seqK_nx (k : Env → Res Fl) : seqK (.ok .nx r) k = k r := rfl
@[simp] theorem seqK_brk (k : Env → Res Fl) : seqK (.ok .brk r) k = .ok .brk r := rfl
@[simp] theorem seqK_cnt (k : Env → Res Fl) : seqK (.ok .cnt r) k = .ok .cnt r := rfl
@[simp] theorem seqK_ret (b : Bool) (v : D) (k : Env → Res Fl) : seqK (.ok (.ret b v) r) k = .ok (.ret b v) r := rfl
@[simp] theorem seqK_exc (c : Str) (v : D) (k : Env → Res Fl) : seqK (.exc c v r) k = .exc c v r := rfl
@[simp] theorem seqK_stuck (k : Env → Res Fl) : seqK .stuck k = .stuck := rfl
@[simp] theorem seqK_ite {c : Prop} [Decidable c] (a b : Res Fl) (k : Env → Res Fl) : seqK (if c then a else b) k = if c then seqK a k else seqK b k := by split <;> rfl
@[simp] theorem b_nil : evB call W .nil r = .ok .nx r := rfl
@[simp] theorem b_cons (a : IS) (l : IB) : evB call W (.cons a l) r = seqK (evS call W a r) (evB call W l) := rfl
def retK : TV → Env → Res Fl
  | .d v, r => .ok (.ret false v) r
  | .f v, r => .ok (.ret true v) r
  | .s i, r => match r[i]? with
    | some (.own d) => .ok (.ret true d) r
    | _ => .stuck
@[simp] theorem retK_d (v : D) : retK (.d v) r = .ok (.ret false v) r := rfl
@[simp] theorem retK_f (v : D) : retK (.f v) r = .ok (.ret true v) r := rfl
@[simp] theorem s_ret (e : IE) : evS call W (.ret e) r = ((ev call e).1 r).bind retK := by
  show Res.bind _ _ = _
  congr; funext x r1
  cases x <;> rfl
@[simp] theorem s_retN : evS call W .retN r = .ok (.ret false .none) r := rfl
@[simp] theorem s_asg (t : IT) (e : IE) : evS call W (.asg t e) r = ((ev call e).1 r).bind fun x r1 => (asn t x r1).bind fun _ r2 => .ok .nx r2 := rfl
@[simp] theorem s_ex (e : IE) : evS call W (.ex e) r = ((ev call e).1 r).bind fun _ r1 => .ok .nx r1 := rfl
@[simp] theorem s_if (c : IE) (a b : IB) : evS call W (.ifs c a b) r = ((ev call c).2 r).bind fun t r1 => if t = true then evB call W a r1 else evB call W b r1 := by
  show Res.bind _ _ = _
  congr; funext t r1; cases t <;> rfl
@[simp] theorem s_for (t : IT) (it : II) (a : IB) : evS call W (.fr t it a) r = (evI call it r).bind fun xs r1 => forL (fun x r2 => (asn t (.d x) r2).bind fun _ r3 => evB call W a r3) xs r1 := rfl
@[simp] theorem s_whl (c : IE) (a : IB) : evS call W (.whl c a) r = whileN (fun r => (ev call c).2 r) (fun r => evB call W a r) W r := rfl
@[simp] theorem s_pas : evS call W .pas r = .ok .nx r := rfl
@[simp] theorem s_rse (c : Str) : evS call W (.rse c) r = .exc c .none r := rfl
def stoK : Option Sl → Sl → Nat → Env → Res Unit
  | some (.bor _), _, _, _ => .stuck
  | none, _, _, _ => .stuck
  | some _, s, i, r => .ok () (r.set i s)
@[simp] theorem stoK_un (s : Sl) (i : Nat) : stoK (some .un) s i r = .ok () (r.set i s) := rfl
@[simp] theorem stoK_val (d : D) (s : Sl) (i : Nat) : stoK (some (.val d)) s i r = .ok () (r.set i s) := rfl
@[simp] theorem stoK_own (d : D) (s : Sl) (i : Nat) : stoK (some (.own d)) s i r = .ok () (r.set i s) := rfl
@[simp] theorem asn_d (i : Nat) (d : D) : asn (.n i false) (.d d) r = stoK r[i]? (.val d) i r := by
  show asn1 i false (.d d) r = _
  unfold asn1
  cases h : r[i]? with
  | none => rfl
  | some s => cases s <;> rfl
@[simp] theorem asn_f (i : Nat) (d : D) : asn (.n i false) (.f d) r = stoK r[i]? (.val d) i r := by
  show asn1 i false (.f d) r = _
  unfold asn1
  cases h : r[i]? with
  | none => rfl
  | some s => cases s <;> rfl
@[simp] theorem asn_fo (i : Nat) (d : D) : asn (.n i true) (.f d) r = stoK r[i]? (.own d) i r := by
  show asn1 i true (.f d) r = _
  unfold asn1
  cases h : r[i]? with
  | none => rfl
  | some s => cases s <;> rfl
@[simp] theorem asn_t (l : List IT) (xs : List D) : asn (.t l) (.d (.tuple xs)) r = asnL l xs r := rfl
@[simp] theorem asnL_nil : asnL [] [] r = .ok () r := rfl
@[simp] theorem asnL_cons (t : IT) (ts : List IT) (x : D) (xs : List D) : asnL (t :: ts) (x :: xs) r = (asn t (.d x) r).bind fun _ r' => asnL ts xs r' := rfl
@[simp] theorem asnP_nil : asnP [] [] r = .ok () r := rfl
@[simp] theorem asnP_cons (t : IT) (ts : List IT) (x : TV) (xs : List TV) : asnP (t :: ts) (x :: xs) r = (asn t x r).bind fun _ r' => asnP ts xs r' := rfl
@[simp] theorem s_asp (ts : List IT) (l : IA) : evS call W (.asp ts l) r = (evF call l r).bind fun xs r1 => if xs.length ≤ SZ then (asnP ts xs r1).bind fun _ r2 => .ok .nx r2 else .stuck := rfl
def fK (x : TV) (r : Env) (k : TV → Env → Res (List TV)) : Res (List TV) := match x with
  | .f v => k (.f v) r
  | x => (solidR r x).bind fun v r2 => k (.d v) r2
@[simp] theorem fK_f (v : D) (k : TV → Env → Res (List TV)) : fK (.f v) r k = k (.f v) r := rfl
@[simp] theorem fK_d (v : D) (k : TV → Env → Res (List TV)) : fK (.d v) r k = k (.d v) r := rfl
@[simp] theorem fK_s (i : Nat) (k : TV → Env → Res (List TV)) : fK (.s i) r k = (solS r[i]? i r).bind fun v r2 => k (.d v) r2 := by
  show (solidR r (.s i)).bind _ = _
  rw [sol_s]
@[simp] theorem f_nil : evF call .nil r = .ok [] r := rfl
@[simp] theorem f_cons (a : IE) (l : IA) : evF call (.cons a l) r = ((ev call a).1 r).bind fun x r1 => fK x r1 fun y r2 => (evF call l r2).bind fun vs r3 => .ok (y :: vs) r3 := by
  show Res.bind _ _ = _
  congr
def lendF : Option D → Env → (Env → Res Fl) → Res Fl
  | some _, r, k => k r
  | none, _, _ => .stuck
@[simp] theorem lendF_some (d : D) (k : Env → Res Fl) : lendF (some d) r k = k r := rfl
def setS : Option Sl → Env → Nat → D → Env
  | some (.own _), r, i, d => r.set i (.own d)
  | some (.bor _), r, i, d => r.set i (.bor d)
  | _, r, _, _ => r
@[simp] theorem setS_own (e d : D) (i : Nat) : setS (some (.own e)) r i d = r.set i (.own d) := rfl
@[simp] theorem setS_bor (e d : D) (i : Nat) : setS (some (.bor e)) r i d = r.set i (.bor d) := rfl
@[simp] theorem setAt_eq (i : Nat) (d : D) : setAt r i d = setS r[i]? r i d := by
  unfold setAt
  generalize r[i]? = o
  cases o with
  | none => rfl
  | some s => cases s <;> rfl
def ixK (o : Option Nat) (k : Nat → Res Fl) : Res Fl := match o with
  | some m => k m
  | none => .stuck
@[simp] theorem ixK_some (m : Nat) (k : Nat → Res Fl) : ixK (some m) k = k m := rfl
def setK : Option D → Option D → Nat → D → Env → Res Fl
  | some (.list xs), some (.int j), i, v, r => ixK (Ev.ixN xs.length j) fun m => .ok .nx (setAt r i (.list (xs.set m v)))
  | _, _, _, _, _ => .stuck
@[simp] theorem setK_l (xs : List D) (j : Int) (i : Nat) (v : D) : setK (some (.list xs)) (some (.int j)) i v r = ixK (Ev.ixN xs.length j) fun m => .ok .nx (setAt r i (.list (xs.set m v))) := rfl
@[simp] theorem s_sto (i : Nat) (k e : IE) : evS call W (.sto i k e) r = ((ev call e).1 r).bind fun x r1 => (solidR r1 x).bind fun v r2 => lendF (mutAt r2 i) r2 fun r2 => ((ev call k).1 r2).bind fun y r3 => setK (mutAt r3 i) (deref r3 y) i v r3 := by
  show Res.bind _ _ = _
  congr; funext x r1; congr; funext v r2
  generalize mutAt r2 i = o
  cases o with
  | none => rfl
  | some d =>
    show Res.bind _ _ = Res.bind _ _
    congr; funext y r3
    generalize mutAt r3 i = o2
    generalize deref r3 y = o3
    cases o2 with
    | none => rfl
    | some d2 =>
      cases o3 with
      | none => cases d2 <;> rfl
      | some d3 =>
        cases d2 <;> first | rfl | skip
        cases d3 <;> first | rfl | skip
        all_goals (unfold setK ixK; split <;> rfl)
/-! a def's run -/
@[simp] theorem outs_nil (r : Env) : outsOf [] r = some [] := rfl
@[simp] theorem outs_v (d : D) (l : List Sl) (s : Sl) (r : Env) : outsOf (.val d :: l) (s :: r) = outsOf l r := rfl
@[simp] theorem outs_b (d e : D) (l : List Sl) (r : Env) : outsOf (.bor d :: l) (.bor e :: r) = (outsOf l r).map (e :: ·) := rfl
def endK (as : List Sl) : Res Fl → CR
  | .ok .nx r => endCall as false .none r
  | .ok (.ret b v) r => endCall as b v r
  | .ok _ _ => .stuck
  | .exc c d _ => .exc c d
  | .stuck => .stuck
@[simp] theorem endK_nx (as : List Sl) : endK as (.ok .nx r) = endCall as false .none r := rfl
@[simp] theorem endK_ret (as : List Sl) (b : Bool) (v : D) : endK as (.ok (.ret b v) r) = endCall as b v r := rfl
@[simp] theorem endK_exc (as : List Sl) (c : Str) (v : D) : endK as (.exc c v r) = .exc c v := rfl
@[simp] theorem endK_stuck (as : List Sl) : endK as .stuck = .stuck := rfl
@[simp] theorem endK_ite {c : Prop} [Decidable c] (as : List Sl) (a b : Res Fl) : endK as (if c then a else b) = if c then endK as a else endK as b := by split <;> rfl
theorem runDef_eq (df : Df) (as : List Sl) (h : as.length = df.np) : runDef call W df as = endK as (evB call W df.body (as ++ List.replicate (df.names.length - df.np) .un)) := by
  unfold runDef
  rw [if_pos h]
  cases evB call W df.body (as ++ List.replicate (df.names.length - df.np) .un) with
  | ok f r => cases f <;> rfl
  | exc c d r => rfl
  | stuck => rfl
def endS : Option (List D) → Bool → D → CR
  | some os, b, v => .ok b v os
  | none, _, _ => .stuck
@[simp] theorem endS_some (os : List D) (b : Bool) (v : D) : endS (some os) b v = .ok b v os := rfl
@[simp] theorem endCall_eq (as : List Sl) (b : Bool) (v : D) : endCall as b v r = endS (outsOf as r) b v := by
  unfold endCall
  cases outsOf as r <;> rfl
end
/-! comprehensions whose elements leave the frame as it is -/
theorem compL_flat {α : Type} {f : D → Env → Res (List D)} {vs : List Nat} {en : α → D} {g : α → List D} {w : Env} : ∀ (xs : List α) (r : Env), wipeE vs r = w → (∀ x ∈ xs, ∀ r, wipeE vs r = w → ∃ r', f (en x) r = .ok (g x) r' ∧ wipeE vs r' = w) → ∃ r', compL f (xs.map en) r = .ok (xs.flatMap g) r' ∧ wipeE vs r' = w
  | [], r, h, _ => ⟨r, rfl, h⟩
  | x :: xs, r, h, hf => by
    obtain ⟨r1, e1, h1⟩ := hf x List.mem_cons_self r h
    obtain ⟨r2, e2, h2⟩ := compL_flat xs r1 h1 fun y hy => hf y (List.mem_cons_of_mem _ hy)
    refine ⟨r2, ?_, h2⟩
    rw [List.map_cons]
    unfold compL
    rw [e1]
    dsimp only
    rw [e2]
    rfl
theorem back_wipe {vs : List Nat} {r r' : Env} (h : wipeE vs r' = wipeE vs r) : backE r vs r' = r := by
  have hl : r'.length = r.length := by
    have := congrArg List.length h
    rwa [wipeE_len, wipeE_len] at this
  apply List.ext_getElem?
  intro j
  rw [backE_get r r' hl.symm]
  by_cases hj : j ∈ vs
  · rw [if_pos hj]
  · rw [if_neg hj]
    have := congrArg (fun q : Env => q[j]?) h
    rwa [wipeE_get, wipeE_get, if_neg hj, if_neg hj] at this
/-- the turn of a comprehension -/
def item (call : Nat → List Sl → CR) (elt : IE) (t : IT) (c : IO) (vs : List Nat) (x : D) (w : Env) : Res (List D) := (asn t (.d x) w).bind fun _ r3 =>
          (evT call c r3).bind fun ok r4 => if ok = true then ((ev call elt).1 r4).bind fun y r5 => (solidR r5 y).bind fun v r6 => .ok [v] r6 else .ok [] r4
theorem e_cm1 {α : Type} {call : Nat → List Sl → CR} {own : List (Str × Nat)} {elt : IE} {t : IT} {it : II} {c : IO} {r r1 : Env} {xs : List α} {en : α → D} (g : α → List D) (hi : evI call it r = .ok (xs.map en) r1)
    (h : ∀ x ∈ xs, ∃ r', item call elt t c (own.map (·.2)) (en x) (wipeE (own.map (·.2)) r1) = .ok (g x) r' ∧ wipeE (own.map (·.2)) r' = wipeE (own.map (·.2)) r1) (hl : (xs.flatMap g).length ≤ SZ) :
    (ev call (.cm1 own elt t it c)).1 r = .ok (.f (.list (xs.flatMap g))) r1 := by
  show (evI call it r).bind _ = _
  rw [hi]
  show (match compL _ (xs.map en) r1 with
      | .ok ys r2 => if ys.length ≤ SZ then Res.ok (TV.f (.list ys)) (backE r1 (own.map Prod.snd) r2) else .stuck
      | _ => .stuck) = _
  obtain ⟨r2, e, hw⟩ := compL_flat (f := fun x r2 => (asn t (.d x) (wipeE (own.map Prod.snd) r2)).bind fun _ r3 =>
          (evT call c r3).bind fun ok r4 => match ok with
            | true => ((ev call elt).1 r4).bind fun y r5 => (solidR r5 y).bind fun v r6 => .ok [v] r6
            | false => .ok [] r4) (vs := own.map Prod.snd) (en := en) (g := g) xs r1 rfl fun x hx r hr => by
    obtain ⟨r', e1, e2⟩ := h x hx
    refine ⟨r', ?_, e2⟩
    rw [hr, ← e1]
    unfold item
    congr; funext _ r3; congr; funext ok r4; cases ok <;> rfl
  exact (show ∀ m, m = Res.ok (xs.flatMap g) r2 → (match m with
      | .ok ys r2 => if ys.length ≤ SZ then Res.ok (TV.f (.list ys)) (backE r1 (own.map Prod.snd) r2) else .stuck
      | _ => .stuck) = Res.ok (TV.f (.list (xs.flatMap g))) r1 from fun m hm => by
    subst hm
    dsimp only
    rw [if_pos hl, back_wipe hw]) _ e
/-- one item for each -/
theorem e_map {α : Type} {call : Nat → List Sl → CR} {own : List (Str × Nat)} {elt : IE} {t : IT} {it : II} {c : IO} {r r1 : Env} {xs : List α} {en : α → D} (g : α → D) (hi : evI call it r = .ok (xs.map en) r1)
    (h : ∀ x ∈ xs, ∃ r', item call elt t c (own.map (·.2)) (en x) (wipeE (own.map (·.2)) r1) = .ok [g x] r' ∧ wipeE (own.map (·.2)) r' = wipeE (own.map (·.2)) r1) (hl : xs.length ≤ SZ) :
    (ev call (.cm1 own elt t it c)).1 r = .ok (.f (.list (xs.map g))) r1 := by
  have e : xs.flatMap (fun x => [g x]) = xs.map g := by
    clear hi h hl
    induction xs with
    | nil => rfl
    | cons x xs ih =>
      rw [List.flatMap_cons, ih]
      rfl
  have := e_cm1 (elt := elt) (t := t) (c := c) (fun x => [g x]) hi h (by rw [e, List.length_map]; exact hl)
  rw [e] at this
  exact this
/-- those that pass -/
theorem e_filter {α : Type} {call : Nat → List Sl → CR} {own : List (Str × Nat)} {elt : IE} {t : IT} {it : II} {c : IO} {r r1 : Env} {xs : List α} {en : α → D} (q : α → Bool) (g : α → D) (hi : evI call it r = .ok (xs.map en) r1)
    (h : ∀ x ∈ xs, ∃ r', item call elt t c (own.map (·.2)) (en x) (wipeE (own.map (·.2)) r1) = .ok (if q x = true then [g x] else []) r' ∧ wipeE (own.map (·.2)) r' = wipeE (own.map (·.2)) r1) (hl : xs.length ≤ SZ) :
    (ev call (.cm1 own elt t it c)).1 r = .ok (.f (.list ((xs.filter q).map g))) r1 := by
  have e : xs.flatMap (fun x => if q x = true then [g x] else []) = (xs.filter q).map g := by
    clear hi h hl
    induction xs with
    | nil => rfl
    | cons x xs ih =>
      rw [List.flatMap_cons, ih]
      by_cases hq : q x = true <;> simp [hq]
  have := e_cm1 (elt := elt) (t := t) (c := c) (fun x => if q x = true then [g x] else []) hi h (by
    rw [e, List.length_map]
    exact Nat.le_trans (List.length_filter_le _ _) hl)
  rw [e] at this
  exact this
/-- a loop that keeps on -/
theorem for_nx {f : D → Env → Res Fl} {x : D} {xs : List D} {r r' : Env} (h : f x r = .ok .nx r') : forL f (x :: xs) r = forL f xs r' := by
  show (match f x r with
    | .ok .nx r' => forL f xs r'
    | .ok .cnt r' => forL f xs r'
    | .ok .brk r' => .ok .nx r'
    | .ok (.ret b v) r' => .ok (.ret b v) r'
    | .exc c d r' => .exc c d r'
    | .stuck => .stuck) = _
  rw [h]
theorem for_end {f : D → Env → Res Fl} {r : Env} : forL f [] r = .ok .nx r := rfl
end Ev

set_option linter.all false
set_option maxHeartbeats 4000000
/-! Comprehensions of two turns; while loops. -/
namespace Ev
open PySem
/-- the outer turn of a comprehension of two -/
def item2 (call : Nat → List Sl → CR) (elt : IE) (t : IT) (c : IO) (t2 : IT) (it2 : II) (c2 : IO) (vs2 : List Nat) (x : D) (w : Env) : Res (List D) := (asn t (.d x) w).bind fun _ r3 =>
          (evT call c r3).bind fun ok r4 => if ok = true then (evI call it2 r4).bind fun zs r5 => compL (fun z r6 => item call elt t2 c2 vs2 z (wipeE vs2 r6)) zs r5 else .ok [] r4
theorem e_cm2 {α : Type} {call : Nat → List Sl → CR} {own : List (Str × Nat)} {own2 : List Nat} {elt : IE} {t : IT} {it : II} {c : IO} {t2 : IT} {it2 : II} {c2 : IO} {r r1 : Env} {xs : List α} {en : α → D} (g : α → List D) (hi : evI call it r = .ok (xs.map en) r1)
    (h : ∀ x ∈ xs, ∃ r', item2 call elt t c t2 it2 c2 own2 (en x) (wipeE (own.map (·.2)) r1) = .ok (g x) r' ∧ wipeE (own.map (·.2)) r' = wipeE (own.map (·.2)) r1) (hl : (xs.flatMap g).length ≤ SZ) :
    (ev call (.cm2 own own2 elt t it c t2 it2 c2)).1 r = .ok (.f (.list (xs.flatMap g))) r1 := by
  show (evI call it r).bind _ = _
  rw [hi]
  show (match compL _ (xs.map en) r1 with
      | .ok ys r2 => if ys.length ≤ SZ then Res.ok (TV.f (.list ys)) (backE r1 (own.map Prod.snd) r2) else .stuck
      | _ => .stuck) = _
  obtain ⟨r2, e, hw⟩ := compL_flat (f := fun x r2 => (asn t (.d x) (wipeE (own.map Prod.snd) r2)).bind fun _ r3 =>
          (evT call c r3).bind fun ok r4 => match ok with
            | true => (evI call it2 r4).bind fun zs r5 =>
              compL (fun z r6 => (asn t2 (.d z) (wipeE own2 r6)).bind fun _ r7 =>
                (evT call c2 r7).bind fun ok2 r8 => match ok2 with
                  | true => ((ev call elt).1 r8).bind fun y r9 => (solidR r9 y).bind fun v r10 => .ok [v] r10
                  | false => .ok [] r8) zs r5
            | false => .ok [] r4) (vs := own.map Prod.snd) (en := en) (g := g) xs r1 rfl fun x hx r hr => by
    obtain ⟨r', e1, e2⟩ := h x hx
    refine ⟨r', ?_, e2⟩
    rw [hr, ← e1]
    unfold item2 item
    congr; funext _ r3; congr; funext ok r4
    cases ok
    · rfl
    · show Res.bind _ _ = Res.bind _ _
      congr; funext zs r5; congr; funext z r6; congr; funext _ r7; congr; funext ok2 r8; cases ok2 <;> rfl
  exact (show ∀ m, m = Res.ok (xs.flatMap g) r2 → (match m with
      | .ok ys r2 => if ys.length ≤ SZ then Res.ok (TV.f (.list ys)) (backE r1 (own.map Prod.snd) r2) else .stuck
      | _ => .stuck) = Res.ok (TV.f (.list (xs.flatMap g))) r1 from fun m hm => by
    subst hm
    dsimp only
    rw [if_pos hl, back_wipe hw]) _ e
theorem whl_nx {c : Env → Res Bool} {f : Env → Res Fl} {n : Nat} {r r1 r2 : Env} (hc : c r = .ok true r1) (hf : f r1 = .ok .nx r2) : whileN c f (n + 1) r = whileN c f n r2 := by
  show (c r).bind _ = _
  rw [hc]
  show (match f r1 with
      | .ok .nx r' => whileN c f n r'
      | .ok .cnt r' => whileN c f n r'
      | .ok .brk r' => .ok .nx r'
      | .ok (.ret b v) r' => .ok (.ret b v) r'
      | .exc c d r' => .exc c d r'
      | .stuck => .stuck) = _
  rw [hf]
theorem whl_end {c : Env → Res Bool} {f : Env → Res Fl} {n : Nat} {r r1 : Env} (hc : c r = .ok false r1) : whileN c f (n + 1) r = .ok .nx r1 := by
  show (c r).bind _ = _
  rw [hc]
  rfl
end Ev

set_option linter.all false
set_option maxRecDepth 100000
set_option maxHeartbeats 0
namespace K63
open PySem PySem.Spec PyProof.Rows L2 Ev
def f0 : Df := ⟨"is_whole", ["value", "low", "high"], 3, (.cons (.ret (.and (.isi (.var 0) .int) (.and (.not (.isi (.var 0) .bool)) (.chn .le .le (.var 1) (.var 0) (.var 2))))) .nil)⟩
def f1 : Df := ⟨"is_row_of", ["value", "low", "high"], 3, (.cons (.ret (.and (.isi (.var 0) .tuple) (.chn .le .le (.var 1) (.bl1 .len (.var 0)) (.var 2)))) .nil)⟩
def f2 : Df := ⟨"fits_sign", ["value"], 1, (.cons (.ret (.and (.isi (.var 0) .str) (.and (.cmp .eq (.bl1 .len (.var 0)) (.cst (.int 1))) (.cmp .inn (.var 0) (.glob "SIGNS" (.str "abcdefghijklmnopqrstuvwxyzABCDEFGHIJKLMNOPQRSTUVWXYZ0123456789 !#$&'()*+,-./:;<=>?\x40[]^_`{|}~\"\n")))))) .nil)⟩
def f3_c0 : IE := .cm1 [("at", 1)] (.and (.call 0 "is_whole" (.cons (.idx (.var 0) (.var 1)) (.cons (.cst (.int 0)) (.cons (.glob "AMOUNT" (.int 100)) .nil)))) (.call 0 "is_whole" (.cons (.idx (.var 0) (.bin .add (.var 1) (.cst (.int 1)))) (.cons (.cst (.int 0)) (.cons (.cst (.int 2)) .nil))))) (.n 1 false) (.val (.tup (.cons (.glob "STRETCH" (.int 2)) (.cons (.glob "SHRINK" (.int 4)) .nil)))) .no
def f3 : Df := ⟨"fits_thing", ["value", "at"], 1, (.cons (.ifs (.or (.not (.call 1 "is_row_of" (.cons (.var 0) (.cons (.cst (.int 2)) (.cons (.cst (.int 6)) .nil))))) (.not (.isi (.idx (.var 0) (.cst (.int 0))) .str))) (.cons (.ret (.cst (.bool false))) .nil) .nil) (.cons (.ifs (.cmp .eq (.idx (.var 0) (.cst (.int 0))) (.cst (.str "space"))) (.cons (.ifs (.or (.cmp .ne (.bl1 .len (.var 0)) (.cst (.int 6))) (.not (.call 0 "is_whole" (.cons (.idx (.var 0) (.cst (.int 1))) (.cons (.neg (.glob "FAR" (.int 1000000))) (.cons (.glob "FAR" (.int 1000000)) .nil)))))) (.cons (.ret (.cst (.bool false))) .nil) .nil) (.cons (.ret (.bl1 .all f3_c0)) .nil)) .nil) (.cons (.ifs (.cmp .ne (.bl1 .len (.var 0)) (.cst (.int 2))) (.cons (.ret (.cst (.bool false))) .nil) .nil) (.cons (.ifs (.cmp .eq (.idx (.var 0) (.cst (.int 0))) (.cst (.str "sign"))) (.cons (.ret (.call 2 "fits_sign" (.cons (.idx (.var 0) (.cst (.int 1))) .nil))) .nil) .nil) (.cons (.ifs (.cmp .inn (.idx (.var 0) (.cst (.int 0))) (.tup (.cons (.cst (.str "kern")) (.cons (.cst (.str "place")) .nil)))) (.cons (.ret (.ife (.cmp .eq (.idx (.var 0) (.cst (.int 0))) (.cst (.str "kern"))) (.call 0 "is_whole" (.cons (.idx (.var 0) (.cst (.int 1))) (.cons (.neg (.glob "FAR" (.int 1000000))) (.cons (.glob "FAR" (.int 1000000)) .nil)))) (.call 0 "is_whole" (.cons (.idx (.var 0) (.cst (.int 1))) (.cons (.neg (.glob "DEAR" (.int 10000))) (.cons (.glob "DEAR" (.int 10000)) .nil)))))) .nil) .nil) (.cons (.ret (.and (.cmp .eq (.idx (.var 0) (.cst (.int 0))) (.cst (.str "box"))) (.isi (.idx (.var 0) (.cst (.int 1))) .tuple))) .nil))))))⟩
def f4_c0 : IE := .cm1 [("thing", 7)] (.var 7) (.n 7 false) (.val (.var 4)) (.yes (.cmp .eq (.idx (.var 7) (.cst (.int 0))) (.cst (.str "space"))))
def f4_c1 : IE := .cm1 [("thing", 7)] (.tup (.cons (.idx (.var 7) (.cst (.int 1))) (.cons (.bin .add (.var 5) (.cst (.int 1))) .nil))) (.n 7 false) (.val (.var 4)) (.yes (.cmp .eq (.idx (.var 7) (.cst (.int 0))) (.cst (.str "box"))))
def f4_c2 : IE := .cm1 [("thing", 7)] (.call 3 "fits_thing" (.cons (.var 7) .nil)) (.n 7 false) (.val (.var 4)) .no
def f4_b0 : IB := (.cons (.asp [(.t [(.n 4 false), (.n 5 false)]), (.n 1 false)] (.cons (.idx (.var 1) (.neg (.cst (.int 1)))) (.cons (.slc (.var 1) .no (.yes (.neg (.cst (.int 1))))) .nil))) (.cons (.ifs (.or (.not (.isi (.var 4) .tuple)) (.or (.cmp .gt (.bin .add (.var 2) (.bl1 .len (.var 4))) (.glob "MANY" (.int 60))) (.not (.bl1 .all f4_c2)))) (.cons (.ret (.cst .none)) .nil) .nil) (.cons (.asg (.n 2 false) (.bin .add (.var 2) (.bl1 .len (.var 4)))) (.cons (.asg (.n 6 false) f4_c1) (.cons (.ifs (.and (.cmp .ne (.var 6) (.lst .nil)) (.cmp .gt (.var 5) (.glob "OTHERS" (.int 5)))) (.cons (.ret (.cst .none)) .nil) .nil) (.cons (.asp [(.n 1 false), (.n 3 false)] (.cons (.bin .add (.var 1) (.var 6)) (.cons (.bin .add (.var 3) f4_c0) .nil))) .nil))))))
def f4_l0 : IS := .whl (.cmp .ne (.var 1) (.lst .nil)) f4_b0
def f4 : Df := ⟨"spaces_in", ["value", "line", "count", "found", "here", "depth", "boxes", "thing"], 1, (.cons (.asp [(.n 1 false), (.n 2 false), (.n 3 false)] (.cons (.lst (.cons (.tup (.cons (.var 0) (.cons (.cst (.int 0)) .nil))) .nil)) (.cons (.cst (.int 0)) (.cons (.lst .nil) .nil)))) (.cons f4_l0 (.cons (.ret (.var 3)) .nil)))⟩
def f5_c0 : IE := .cm1 [("thing", 3)] (.idx (.var 3) (.var 1)) (.n 3 false) (.val (.var 0)) (.yes (.cmp .eq (.idx (.var 3) (.bin .add (.var 1) (.cst (.int 1)))) (.var 2)))
def f5 : Df := ⟨"sum_with", ["spaces", "column", "order", "thing"], 3, (.cons (.ret (.bl1 .sum f5_c0)) .nil)⟩
def f6_c0 : IE := .cm2 [("column", 2), ("order", 3)] [3] (.cmp .le (.call 5 "sum_with" (.cons (.var 1) (.cons (.var 2) (.cons (.var 3) .nil)))) (.glob "SUM" (.int 300))) (.n 2 false) (.val (.tup (.cons (.glob "STRETCH" (.int 2)) (.cons (.glob "SHRINK" (.int 4)) .nil)))) .no (.n 3 false) (.val (.tup (.cons (.cst (.int 0)) (.cons (.cst (.int 1)) (.cons (.cst (.int 2)) .nil))))) .no
def f6 : Df := ⟨"fits_strip", ["value", "spaces", "column", "order"], 1, (.cons (.asg (.n 1 false) (.call 4 "spaces_in" (.cons (.var 0) .nil))) (.cons (.ifs (.cmp .is (.var 1) (.cst .none)) (.cons (.ret (.cst (.bool false))) .nil) .nil) (.cons (.ret (.bl1 .all f6_c0)) .nil)))⟩
def f7 : Df := ⟨"need_strip", ["value"], 1, (.cons (.ifs (.not (.call 6 "fits_strip" (.cons (.var 0) .nil))) (.cons (.rse "InvalidStrip") .nil) .nil) .nil)⟩
def f8 : Df := ⟨"need_width", ["value"], 1, (.cons (.ifs (.not (.call 0 "is_whole" (.cons (.var 0) (.cons (.neg (.glob "GREATEST" (.int 1000000000))) (.cons (.glob "GREATEST" (.int 1000000000)) .nil))))) (.cons (.rse "InvalidWidth") .nil) .nil) .nil)⟩
def f9 : Df := ⟨"wide", ["thing"], 1, (.cons (.ifs (.cmp .eq (.idx (.var 0) (.cst (.int 0))) (.cst (.str "box"))) (.cons (.ret (.call 10 "sum_of" (.cons (.idx (.var 0) (.cst (.int 1))) .nil))) .nil) .nil) (.cons (.ret (.ife (.cmp .eq (.idx (.var 0) (.cst (.int 0))) (.cst (.str "sign"))) (.glob "SIGN" (.int 10)) (.ife (.cmp .eq (.idx (.var 0) (.cst (.int 0))) (.cst (.str "place"))) (.cst (.int 0)) (.idx (.var 0) (.cst (.int 1)))))) .nil))⟩
def f10_c0 : IE := .cm1 [("thing", 1)] (.call 9 "wide" (.cons (.var 1) .nil)) (.n 1 false) (.val (.var 0)) .no
def f10 : Df := ⟨"sum_of", ["strip", "thing"], 1, (.cons (.ret (.bl1 .sum f10_c0)) .nil)⟩
def f11_c0 : IE := .cm1 [("thing", 1)] (.var 1) (.n 1 false) (.val (.var 0)) (.yes (.cmp .eq (.idx (.var 1) (.cst (.int 0))) (.cst (.str "space"))))
def f11 : Df := ⟨"own_spaces", ["strip", "thing"], 1, (.cons (.ret f11_c0) .nil)⟩
def f12_c0 : IE := .cm1 [("thing", 3)] (.idx (.var 3) (.bin .add (.var 1) (.cst (.int 1)))) (.n 3 false) (.val (.call 11 "own_spaces" (.cons (.var 0) .nil))) (.yes (.cmp .gt (.idx (.var 3) (.var 1)) (.cst (.int 0))))
def f12 : Df := ⟨"ruling", ["strip", "column", "orders", "thing"], 2, (.cons (.asg (.n 2 false) f12_c0) (.cons (.ret (.ife (.cmp .ne (.var 2) (.lst .nil)) (.bl1 .max (.var 2)) (.cst .none))) .nil))⟩
def f13_c0 : IE := .cm1 [("thing", 3)] (.ife (.and (.cmp .eq (.idx (.var 3) (.cst (.int 0))) (.cst (.str "space"))) (.cmp .eq (.idx (.var 3) (.bin .add (.var 1) (.cst (.int 1)))) (.var 2))) (.idx (.var 3) (.var 1)) (.cst (.int 0))) (.n 3 false) (.val (.var 0)) .no
def f13 : Df := ⟨"amounts_of", ["strip", "column", "order", "thing"], 2, (.cons (.asg (.n 2 false) (.call 12 "ruling" (.cons (.var 0) (.cons (.var 1) .nil)))) (.cons (.ret f13_c0) .nil))⟩
def f14_b0 : IB := (.cons (.asg (.n 1 false) (.bin .add (.var 1) (.lst (.cons (.bin .add (.idx (.var 1) (.neg (.cst (.int 1)))) (.var 2)) .nil)))) .nil)
def f14_l0 : IS := .fr (.n 2 false) (.val (.var 0)) f14_b0
def f14 : Df := ⟨"sums_ahead", ["numbers", "found", "number"], 1, (.cons (.asg (.n 1 false) (.lst (.cons (.cst (.int 0)) .nil))) (.cons f14_l0 (.cons (.ret (.var 1)) .nil)))⟩
def f15_c0 : IE := .cm1 [("place", 6), ("part", 7)] (.bin .add (.var 6) (.bin .div (.bin .mul (.var 3) (.var 7)) (.idx (.var 5) (.neg (.cst (.int 1)))))) (.t [(.n 6 false), (.n 7 false)]) (.zip (.var 2) (.var 5)) .no
def f15_c1 : IE := .cm1 [("thing", 8)] (.call 9 "wide" (.cons (.var 8) .nil)) (.n 8 false) (.val (.var 0)) .no
def f15 : Df := ⟨"tops_of", ["strip", "width", "widths", "excess", "column", "sums", "place", "part", "thing"], 2, (.cons (.asg (.n 2 false) (.call 14 "sums_ahead" (.cons f15_c1 .nil))) (.cons (.asg (.n 3 false) (.bin .sub (.var 1) (.idx (.var 2) (.neg (.cst (.int 1)))))) (.cons (.ifs (.cmp .eq (.var 3) (.cst (.int 0))) (.cons (.ret (.var 2)) .nil) .nil) (.cons (.asg (.n 4 false) (.ife (.cmp .gt (.var 3) (.cst (.int 0))) (.glob "STRETCH" (.int 2)) (.glob "SHRINK" (.int 4)))) (.cons (.asg (.n 5 false) (.call 14 "sums_ahead" (.cons (.call 13 "amounts_of" (.cons (.var 0) (.cons (.var 4) .nil))) .nil))) (.cons (.ifs (.and (.cmp .gt (.var 3) (.cst (.int 0))) (.cmp .eq (.idx (.var 5) (.neg (.cst (.int 1)))) (.cst (.int 0)))) (.cons (.ret (.cst (.str "loose"))) .nil) .nil) (.cons (.ifs (.and (.cmp .lt (.var 3) (.cst (.int 0))) (.or (.cmp .eq (.idx (.var 5) (.neg (.cst (.int 1)))) (.cst (.int 0))) (.and (.cmp .eq (.call 12 "ruling" (.cons (.var 0) (.cons (.var 4) .nil))) (.cst (.int 0))) (.cmp .lt (.idx (.var 5) (.neg (.cst (.int 1)))) (.neg (.var 3)))))) (.cons (.ret (.cst (.str "tight"))) .nil) .nil) (.cons (.ret f15_c0) .nil))))))))⟩
def f16_c0 : IE := .cm1 [("place", 7)] (.bin .add (.var 4) (.var 7)) (.n 7 false) (.val (.var 5)) .no
def f16_c1 : IE := .cm1 [("one", 6)] (.call 9 "wide" (.cons (.var 6) .nil)) (.n 6 false) (.val (.idx (.var 3) (.cst (.int 1)))) .no
def f16_b0 : IB := (.cons (.ifs (.cmp .eq (.idx (.var 3) (.cst (.int 0))) (.cst (.str "box"))) (.cons (.asg (.n 5 false) (.call 14 "sums_ahead" (.cons f16_c1 .nil))) (.cons (.asg (.n 2 false) (.bin .add (.var 2) (.call 16 "leaves_from" (.cons (.idx (.var 3) (.cst (.int 1))) (.cons f16_c0 .nil))))) .nil)) (.cons (.asg (.n 2 false) (.bin .add (.var 2) (.tup (.cons (.var 4) .nil)))) .nil)) .nil)
def f16_l0 : IS := .fr (.t [(.n 3 false), (.n 4 false)]) (.zip (.var 0) (.var 1)) f16_b0
def f16 : Df := ⟨"leaves_from", ["strip", "tops", "found", "thing", "top", "inner", "one", "place"], 2, (.cons (.asg (.n 2 false) (.tup .nil)) (.cons f16_l0 (.cons (.ret (.var 2)) .nil)))⟩
def f17 : Df := ⟨"need_index", ["value", "low", "high"], 3, (.cons (.ifs (.not (.call 0 "is_whole" (.cons (.var 0) (.cons (.var 1) (.cons (.var 2) .nil))))) (.cons (.rse "InvalidIndex") .nil) .nil) .nil)⟩
def f18_b0 : IB := (.cons (.ifs (.cmp .le (.var 6) (.var 2)) (.cons (.asg (.n 8 false) (.ife (.cmp .gt (.var 4) (.cst (.int 0))) (.bin .div (.bin .mul (.var 5) (.var 7)) (.var 4)) (.cst (.int 0)))) .nil) (.cons (.asg (.n 8 false) (.bin .add (.var 5) (.ife (.cmp .gt (.var 3) (.var 4)) (.bin .div (.bin .mul (.bin .sub (.var 0) (.var 5)) (.bin .sub (.var 7) (.var 4))) (.bin .sub (.var 3) (.var 4))) (.cst (.int 0))))) .nil)) (.cons (.ifs (.cmp .ne (.var 8) (.bin .div (.bin .mul (.var 0) (.var 7)) (.var 3))) (.cons (.ret (.cst (.bool true))) .nil) .nil) .nil))
def f18_l0 : IS := .fr (.t [(.n 6 false), (.n 7 false)]) (.enm (.var 1)) f18_b0
def f18 : Df := ⟨"halves_part", ["excess", "sums", "at", "whole", "ahead", "first", "here", "part", "mine"], 3, (.cons (.asp [(.n 3 false), (.n 4 false)] (.cons (.idx (.var 1) (.neg (.cst (.int 1)))) (.cons (.idx (.var 1) (.var 2)) .nil))) (.cons (.asg (.n 5 false) (.bin .div (.bin .mul (.var 0) (.var 4)) (.var 3))) (.cons f18_l0 (.cons (.ret (.cst (.bool false))) .nil))))⟩
def f19_b0 : IB := (.cons (.ifs (.call 18 "halves_part" (.cons (.bin .mul (.var 3) (.var 5)) (.cons (.var 4) (.cons (.var 1) .nil)))) (.cons (.ret (.bin .add (.call 10 "sum_of" (.cons (.var 0) .nil)) (.bin .mul (.var 3) (.var 5)))) .nil) .nil) .nil)
def f19_l0 : IS := .fr (.n 5 false) (.rg2 (.cst (.int 1)) (.idx (.var 4) (.neg (.cst (.int 1))))) f19_b0
def f19_b1 : IB := (.cons (.asg (.n 4 false) (.call 14 "sums_ahead" (.cons (.call 13 "amounts_of" (.cons (.var 0) (.cons (.var 2) .nil))) .nil))) (.cons f19_l0 .nil))
def f19_l1 : IS := .fr (.t [(.n 2 false), (.n 3 false)]) (.val (.tup (.cons (.tup (.cons (.glob "STRETCH" (.int 2)) (.cons (.cst (.int 1)) .nil))) (.cons (.tup (.cons (.glob "SHRINK" (.int 4)) (.cons (.neg (.cst (.int 1))) .nil))) .nil)))) f19_b1
def f19 : Df := ⟨"cutting_width", ["strip", "at", "column", "way", "sums", "excess"], 2, (.cons f19_l1 (.cons (.ret (.cst .none)) .nil))⟩
def f20_c0 : IE := .cm1 [("top", 7)] (.bin .add (.idx (.var 3) (.var 1)) (.var 7)) (.n 7 false) (.val (.var 5)) .no
def f20 : Df := ⟨"set_halves", ["strip", "at", "width", "tops", "first", "later", "places", "top"], 3, (.cons (.ex (.call 7 "need_strip" (.cons (.var 0) .nil))) (.cons (.ex (.call 17 "need_index" (.cons (.var 1) (.cons (.cst (.int 0)) (.cons (.bl1 .len (.var 0)) .nil))))) (.cons (.ex (.call 8 "need_width" (.cons (.var 2) .nil))) (.cons (.asg (.n 3 false) (.call 15 "tops_of" (.cons (.var 0) (.cons (.var 2) .nil)))) (.cons (.ifs (.isi (.var 3) .str) (.cons (.ret (.tup (.cons (.var 3) .nil))) .nil) .nil) (.cons (.asp [(.n 4 false), (.n 5 false)] (.cons (.call 15 "tops_of" (.cons (.slc (.var 0) .no (.yes (.var 1))) (.cons (.idx (.var 3) (.var 1)) .nil))) (.cons (.call 15 "tops_of" (.cons (.slc (.var 0) (.yes (.var 1)) .no) (.cons (.bin .sub (.var 2) (.idx (.var 3) (.var 1))) .nil))) .nil))) (.cons (.asg (.n 6 false) (.bin .add (.call 16 "leaves_from" (.cons (.slc (.var 0) .no (.yes (.var 1))) (.cons (.var 4) .nil))) (.call 16 "leaves_from" (.cons (.slc (.var 0) (.yes (.var 1)) .no) (.cons f20_c0 .nil))))) (.cons (.ret (.tup (.cons (.cst (.str "set")) (.cons (.bin .add (.var 6) (.tup (.cons (.var 2) .nil))) .nil)))) .nil))))))))⟩
def f21 : Df := ⟨"may_cut", ["strip", "at"], 2, (.cons (.ex (.call 7 "need_strip" (.cons (.var 0) .nil))) (.cons (.ex (.call 17 "need_index" (.cons (.var 1) (.cons (.cst (.int 0)) (.cons (.bl1 .len (.var 0)) .nil))))) (.cons (.ret (.cmp .is (.call 19 "cutting_width" (.cons (.var 0) (.cons (.var 1) .nil))) (.cst .none))) .nil)))⟩
def f22 : Df := ⟨"cut_shown", ["strip", "at"], 2, (.cons (.ex (.call 7 "need_strip" (.cons (.var 0) .nil))) (.cons (.ex (.call 17 "need_index" (.cons (.var 1) (.cons (.cst (.int 0)) (.cons (.bl1 .len (.var 0)) .nil))))) (.cons (.ret (.call 19 "cutting_width" (.cons (.var 0) (.cons (.var 1) .nil)))) .nil)))⟩
def f23 : Df := ⟨"_law_cup", ["_law_script", "_law_cell", "_law_great"], 1, (.cons (.asg (.n 1 false) (.bl1 .abs (.idx (.bin .add (.bl1 .list (.var 0)) (.lst (.cons (.cst (.int 0)) .nil))) (.cst (.int 0))))) (.cons (.asg (.n 2 false) (.ife (.cmp .ge (.var 1) (.bin .pow (.cst (.int 10)) (.cst (.int 18)))) (.bin .div (.var 1) (.cst (.int 13))) (.cst (.int 0)))) (.cons (.ret (.lst (.cons (.var 2) (.cons (.bin .add (.bin .mod (.bl1 .int (.bin .add (.bin .mul (.var 1) (.cst (.int 223))) (.cst (.int 1013)))) (.cst (.int 2077504271))) (.cst (.int 53))) .nil)))) .nil)))⟩
def f24 : Df := ⟨"_law_roll", ["_law_cup_here", "_law_many", "_law_deep", "_law_found"], 2, (.cons (.ifs (.cmp .gt (.idx (.var 0) (.cst (.int 0))) (.cst (.int 0))) (.cons (.asg (.n 3 false) (.bin .mod (.bl1 .int (.idx (.var 0) (.cst (.int 0)))) (.var 1))) (.cons (.sto 0 (.cst (.int 0)) (.bin .div (.idx (.var 0) (.cst (.int 0))) (.var 1))) (.cons (.ret (.var 3)) .nil))) .nil) (.cons (.sto 0 (.cst (.int 1)) (.bin .mod (.bl1 .int (.bin .add (.bin .mul (.idx (.var 0) (.cst (.int 1))) (.cst (.int 28411))) (.cst (.int 6007)))) (.cst (.int 2147483543)))) (.cons (.asg (.n 2 false) (.bin .mod (.bl1 .int (.bin .mul (.idx (.var 0) (.cst (.int 1))) (.bin .add (.idx (.var 0) (.cst (.int 1))) (.cst (.int 149))))) (.cst (.int 2147483579)))) (.cons (.ret (.bin .mod (.bl1 .int (.bin .div (.var 2) (.cst (.int 811)))) (.var 1))) .nil))))⟩
def f25 : Df := ⟨"_law_some", ["_law_cup_here", "_law_things"], 2, (.cons (.ret (.idx (.var 1) (.call 24 "_law_roll" (.lend 0 (.cons (.bl1 .len (.var 1)) .nil))))) .nil)⟩
def f26 : Df := ⟨"_law_space", ["_law_cup_here", "_law_most", "_law_stretch", "_law_shrink", "_law_orders"], 2, (.cons (.asp [(.n 2 false), (.n 3 false)] (.cons (.call 25 "_law_some" (.lend 0 (.cons (.lst (.cons (.cst (.int 0)) (.cons (.cst (.int 1)) (.cons (.cst (.int 2)) (.cons (.cst (.int 3)) (.cons (.cst (.int 5)) (.cons (.var 1) .nil))))))) .nil))) (.cons (.call 25 "_law_some" (.lend 0 (.cons (.lst (.cons (.cst (.int 0)) (.cons (.cst (.int 0)) (.cons (.cst (.int 1)) (.cons (.cst (.int 2)) (.cons (.cst (.int 4)) (.cons (.var 1) .nil))))))) .nil))) .nil))) (.cons (.asg (.n 4 false) (.lst (.cons (.cst (.int 0)) (.cons (.cst (.int 0)) (.cons (.cst (.int 0)) (.cons (.cst (.int 1)) (.cons (.cst (.int 2)) .nil))))))) (.cons (.ret (.tup (.cons (.cst (.str "space")) (.cons (.call 25 "_law_some" (.lend 0 (.cons (.lst (.cons (.cst (.int 10)) (.cons (.cst (.int 0)) (.cons (.cst (.int 4)) (.cons (.cst (.int 7)) (.cons (.neg (.cst (.int 3))) .nil)))))) .nil))) (.cons (.var 2) (.cons (.call 25 "_law_some" (.lend 0 (.cons (.var 4) .nil))) (.cons (.var 3) (.cons (.call 25 "_law_some" (.lend 0 (.cons (.var 4) .nil))) .nil)))))))) .nil)))⟩
def f27_b0 : IB := (.cons (.ifs (.cmp .gt (.idx (.var 2) (.cst (.int 0))) (.cst (.int 0))) (.cons (.asg (.n 4 false) (.bin .add (.var 4) (.tup (.cons (.call 27 "_law_thing" (.lend 0 (.cons (.bin .sub (.var 1) (.cst (.int 1))) (.lend 2 .nil)))) .nil)))) .nil) .nil) .nil)
def f27_l0 : IS := .fr (.n 5 false) (.rg1 (.call 24 "_law_roll" (.lend 0 (.cons (.cst (.int 4)) .nil)))) f27_b0
def f27 : Df := ⟨"_law_thing", ["_law_cup_here", "_law_deep", "_law_room", "_law_way", "_law_inner_here", "_law_turn"], 3, (.cons (.sto 2 (.cst (.int 0)) (.bin .sub (.idx (.var 2) (.cst (.int 0))) (.cst (.int 1)))) (.cons (.asg (.n 3 false) (.call 24 "_law_roll" (.lend 0 (.cons (.cst (.int 9)) .nil)))) (.cons (.ifs (.cmp .lt (.var 3) (.cst (.int 2))) (.cons (.ret (.tup (.cons (.cst (.str "sign")) (.cons (.call 25 "_law_some" (.lend 0 (.cons (.lst (.cons (.cst (.str "a")) (.cons (.cst (.str "B")) (.cons (.cst (.str "0")) (.cons (.cst (.str "!")) (.cons (.cst (.str " ")) .nil)))))) .nil))) .nil)))) .nil) .nil) (.cons (.ifs (.cmp .eq (.var 3) (.cst (.int 2))) (.cons (.ret (.tup (.cons (.cst (.str "kern")) (.cons (.call 25 "_law_some" (.lend 0 (.cons (.lst (.cons (.cst (.int 0)) (.cons (.cst (.int 5)) (.cons (.neg (.cst (.int 7))) (.cons (.cst (.int 20)) (.cons (.cst (.int 31)) .nil)))))) .nil))) .nil)))) .nil) .nil) (.cons (.ifs (.and (.cmp .lt (.var 3) (.cst (.int 5))) (.cmp .gt (.var 1) (.cst (.int 0)))) (.cons (.asg (.n 4 false) (.tup .nil)) (.cons f27_l0 (.cons (.ret (.tup (.cons (.cst (.str "box")) (.cons (.var 4) .nil)))) .nil))) .nil) (.cons (.ret (.call 26 "_law_space" (.lend 0 (.cons (.cst (.int 6)) .nil)))) .nil))))))⟩
def f28_b0 : IB := (.cons (.ifs (.cmp .gt (.idx (.var 3) (.cst (.int 0))) (.cst (.int 0))) (.cons (.asg (.n 2 false) (.bin .add (.var 2) (.tup (.cons (.ife (.cmp .eq (.call 24 "_law_roll" (.lend 0 (.cons (.cst (.int 9)) .nil))) (.cst (.int 0))) (.tup (.cons (.cst (.str "place")) (.cons (.call 24 "_law_roll" (.lend 0 (.cons (.cst (.int 90)) .nil))) .nil))) (.call 27 "_law_thing" (.lend 0 (.cons (.cst (.int 2)) (.lend 3 .nil))))) .nil)))) .nil) .nil) .nil)
def f28_l0 : IS := .fr (.n 4 false) (.rg1 (.call 24 "_law_roll" (.lend 0 (.cons (.cst (.int 9)) .nil)))) f28_b0
def f28 : Df := ⟨"_law_strip", ["_law_cup_here", "_law_many", "_law_found", "_law_room", "_law_turn"], 2, (.cons (.asp [(.n 2 false), (.n 3 true)] (.cons (.tup .nil) (.cons (.lst (.cons (.var 1) .nil)) .nil))) (.cons f28_l0 (.cons (.ret (.var 2)) .nil)))⟩
def f29_b0 : IB := (.cons (.ifs (.cmp .eq (.idx (.var 2) (.cst (.int 0))) (.cst (.str "box"))) (.cons (.asg (.n 1 false) (.bin .add (.var 1) (.call 29 "_law_wide" (.cons (.idx (.var 2) (.cst (.int 1))) .nil)))) .nil) (.cons (.asg (.n 1 false) (.bin .add (.var 1) (.mg2 (.dsp [(.str "sign"), (.str "place")] (.cons (.cst (.int 10)) (.cons (.cst (.int 0)) .nil))) (.idx (.var 2) (.cst (.int 0))) (.idx (.var 2) (.cst (.int 1)))))) .nil)) .nil)
def f29_l0 : IS := .fr (.n 2 false) (.val (.var 0)) f29_b0
def f29 : Df := ⟨"_law_wide", ["_law_things", "_law_found", "_law_thing_here"], 1, (.cons (.asg (.n 1 false) (.cst (.int 0))) (.cons f29_l0 (.cons (.ret (.var 1)) .nil)))⟩
def f30_c0 : IE := .cm1 [("_law_thing_here", 4)] (.ife (.and (.cmp .eq (.idx (.var 4) (.cst (.int 0))) (.cst (.str "space"))) (.cmp .eq (.idx (.var 4) (.bin .add (.var 1) (.cst (.int 1)))) (.var 3))) (.idx (.var 4) (.var 1)) (.cst (.int 0))) (.n 4 false) (.val (.var 0)) .no
def f30_c1 : IE := .cm1 [("_law_thing_here", 4)] (.idx (.var 4) (.bin .add (.var 1) (.cst (.int 1)))) (.n 4 false) (.val (.var 0)) (.yes (.and (.cmp .eq (.idx (.var 4) (.cst (.int 0))) (.cst (.str "space"))) (.cmp .gt (.idx (.var 4) (.var 1)) (.cst (.int 0)))))
def f30 : Df := ⟨"_law_rules", ["_law_strip_here", "_law_way", "_law_orders", "_law_top_here", "_law_thing_here"], 2, (.cons (.asg (.n 2 false) f30_c1) (.cons (.asg (.n 3 false) (.bl1 .max (.bin .add (.var 2) (.lst (.cons (.cst (.int 0)) .nil))))) (.cons (.ret f30_c0) .nil)))⟩
def f31_c0 : IE := .cm1 [("_law_thing_here", 5)] (.var 5) (.n 5 false) (.val (.var 0)) (.yes (.and (.cmp .eq (.idx (.var 5) (.cst (.int 0))) (.cst (.str "space"))) (.and (.cmp .gt (.idx (.var 5) (.cst (.int 4))) (.cst (.int 0))) (.cmp .gt (.idx (.var 5) (.cst (.int 5))) (.cst (.int 0))))))
def f31 : Df := ⟨"_law_word", ["_law_strip_here", "_law_width", "_law_excess", "_law_rules_here", "_law_soft", "_law_thing_here"], 2, (.cons (.asg (.n 2 false) (.bin .sub (.var 1) (.call 29 "_law_wide" (.cons (.var 0) .nil)))) (.cons (.asg (.n 3 false) (.call 30 "_law_rules" (.cons (.var 0) (.cons (.ife (.cmp .gt (.var 2) (.cst (.int 0))) (.cst (.int 2)) (.cst (.int 4))) .nil)))) (.cons (.ifs (.or (.cmp .eq (.var 2) (.cst (.int 0))) (.and (.cmp .gt (.var 2) (.cst (.int 0))) (.cmp .gt (.bl1 .sum (.var 3)) (.cst (.int 0))))) (.cons (.ret (.cst (.str ""))) .nil) .nil) (.cons (.asg (.n 4 false) f31_c0) (.cons (.ifs (.and (.cmp .lt (.var 2) (.cst (.int 0))) (.or (.cmp .ge (.bl1 .sum (.var 3)) (.neg (.var 2))) (.cmp .ne (.var 4) (.lst .nil)))) (.cons (.ret (.cst (.str ""))) .nil) .nil) (.cons (.ret (.ife (.cmp .gt (.var 2) (.cst (.int 0))) (.cst (.str "loose")) (.cst (.str "tight")))) .nil))))))⟩
def f32 : Df := ⟨"_law_top", ["_law_strip_here", "_law_width", "_law_at", "_law_excess", "_law_rules_here", "_law_whole", "_law_more"], 3, (.cons (.asg (.n 3 false) (.bin .sub (.var 1) (.call 29 "_law_wide" (.cons (.var 0) .nil)))) (.cons (.asg (.n 4 false) (.call 30 "_law_rules" (.cons (.var 0) (.cons (.ife (.cmp .gt (.var 3) (.cst (.int 0))) (.cst (.int 2)) (.cst (.int 4))) .nil)))) (.cons (.asg (.n 5 false) (.bl2 .max (.cst (.int 1)) (.bl1 .sum (.var 4)))) (.cons (.asg (.n 6 false) (.bin .mul (.var 3) (.bl1 .sum (.slc (.var 4) .no (.yes (.var 2)))))) (.cons (.ret (.bin .add (.call 29 "_law_wide" (.cons (.slc (.var 0) .no (.yes (.var 2))) .nil)) (.bin .div (.bin .sub (.var 6) (.bin .mod (.bl1 .int (.var 6)) (.var 5))) (.var 5)))) .nil)))))⟩
def f33_b0 : IB := (.cons (.asg (.n 2 false) (.bin .add (.var 2) (.ife (.cmp .eq (.idx (.var 3) (.cst (.int 0))) (.cst (.str "box"))) (.call 33 "_law_inner" (.cons (.idx (.var 3) (.cst (.int 1))) (.cons (.var 1) .nil))) (.tup (.cons (.var 1) .nil))))) (.cons (.asg (.n 1 false) (.bin .add (.var 1) (.call 29 "_law_wide" (.cons (.tup (.cons (.var 3) .nil)) .nil)))) .nil))
def f33_l0 : IS := .fr (.n 3 false) (.val (.var 0)) f33_b0
def f33 : Df := ⟨"_law_inner", ["_law_things", "_law_top_here", "_law_found", "_law_thing_here"], 2, (.cons (.asg (.n 2 false) (.tup .nil)) (.cons f33_l0 (.cons (.ret (.var 2)) .nil)))⟩
def f34_b0 : IB := (.cons (.asg (.n 2 false) (.bin .add (.var 2) (.call 33 "_law_inner" (.cons (.tup (.cons (.var 4) .nil)) (.cons (.call 32 "_law_top" (.cons (.var 0) (.cons (.var 1) (.cons (.var 3) .nil)))) .nil))))) .nil)
def f34_l0 : IS := .fr (.t [(.n 3 false), (.n 4 false)]) (.enm (.var 0)) f34_b0
def f34 : Df := ⟨"_law_leaves", ["_law_strip_here", "_law_width", "_law_found", "_law_at", "_law_thing_here"], 2, (.cons (.asg (.n 2 false) (.tup .nil)) (.cons f34_l0 (.cons (.ret (.var 2)) .nil)))⟩
def f35 : Df := ⟨"_law_due", ["_law_strip_here", "_law_width", "_law_word_here"], 2, (.cons (.asg (.n 2 false) (.call 31 "_law_word" (.cons (.var 0) (.cons (.var 1) .nil)))) (.cons (.ret (.ife (.cmp .ne (.var 2) (.cst (.str ""))) (.tup (.cons (.var 2) .nil)) (.tup (.cons (.cst (.str "set")) (.cons (.bin .add (.call 34 "_law_leaves" (.cons (.var 0) (.cons (.var 1) .nil))) (.tup (.cons (.var 1) .nil))) .nil))))) .nil))⟩
def f36 : Df := ⟨"_law_widths", ["_law_cup_here", "_law_strip_here", "_law_whole", "_law_more", "_law_up", "_law_down"], 2, (.cons (.asp [(.n 2 false), (.n 3 false)] (.cons (.call 29 "_law_wide" (.cons (.var 1) .nil)) (.cons (.call 24 "_law_roll" (.lend 0 (.cons (.cst (.int 40)) .nil))) .nil))) (.cons (.asp [(.n 4 false), (.n 5 false)] (.cons (.bl1 .sum (.call 30 "_law_rules" (.cons (.var 1) (.cons (.cst (.int 2)) .nil)))) (.cons (.bl1 .sum (.call 30 "_law_rules" (.cons (.var 1) (.cons (.cst (.int 4)) .nil)))) .nil))) (.cons (.ret (.lst (.cons (.var 2) (.cons (.bin .add (.var 2) (.cst (.int 1))) (.cons (.bin .add (.var 2) (.var 3)) (.cons (.bin .sub (.var 2) (.var 3)) (.cons (.bin .sub (.var 2) (.var 5)) (.cons (.bin .sub (.bin .sub (.var 2) (.var 5)) (.cst (.int 1))) (.cons (.bin .add (.var 2) (.var 4)) (.cons (.bin .add (.bin .add (.var 2) (.bin .mul (.cst (.int 3)) (.var 4))) (.cst (.int 1))) (.cons (.bin .sub (.var 2) (.cst (.int 1))) .nil))))))))))) .nil)))⟩
def f37_c0 : IE := .cm1 [("_law_place", 7)] (.bin .add (.var 4) (.var 7)) (.n 7 false) (.val (.var 6)) .no
def f37 : Df := ⟨"_law_halves", ["_law_strip_here", "_law_at", "_law_width", "_law_word_here", "_law_top_here", "_law_first", "_law_later", "_law_place"], 3, (.cons (.asg (.n 3 false) (.call 31 "_law_word" (.cons (.var 0) (.cons (.var 2) .nil)))) (.cons (.ifs (.cmp .ne (.var 3) (.cst (.str ""))) (.cons (.ret (.tup (.cons (.var 3) .nil))) .nil) .nil) (.cons (.asg (.n 4 false) (.call 32 "_law_top" (.cons (.var 0) (.cons (.var 2) (.cons (.var 1) .nil))))) (.cons (.asp [(.n 5 false), (.n 6 false)] (.cons (.call 34 "_law_leaves" (.cons (.slc (.var 0) .no (.yes (.var 1))) (.cons (.var 4) .nil))) (.cons (.call 34 "_law_leaves" (.cons (.slc (.var 0) (.yes (.var 1)) .no) (.cons (.bin .sub (.var 2) (.var 4)) .nil))) .nil))) (.cons (.ret (.tup (.cons (.cst (.str "set")) (.cons (.bin .add (.bin .add (.var 5) (.bl1 .tuple f37_c0)) (.tup (.cons (.var 2) .nil))) .nil)))) .nil)))))⟩
def f38_b0 : IB := (.cons (.ifs (.and (.cmp .lt (.var 6) (.var 1)) (.cmp .ne (.bin .div (.bin .mul (.var 5) (.var 7)) (.bl2 .max (.cst (.int 1)) (.var 4))) (.bin .div (.bin .mul (.var 2) (.var 7)) (.var 3)))) (.cons (.ret (.cst (.bool true))) .nil) .nil) (.cons (.ifs (.and (.cmp .gt (.var 6) (.var 1)) (.cmp .ne (.bin .add (.var 5) (.bin .div (.bin .mul (.bin .sub (.var 2) (.var 5)) (.bin .sub (.var 7) (.var 4))) (.bl2 .max (.cst (.int 1)) (.bin .sub (.var 3) (.var 4))))) (.bin .div (.bin .mul (.var 2) (.var 7)) (.var 3)))) (.cons (.ret (.cst (.bool true))) .nil) .nil) .nil))
def f38_l0 : IS := .fr (.t [(.n 6 false), (.n 7 false)]) (.enm (.var 0)) f38_b0
def f38 : Df := ⟨"_law_drifts", ["_law_sums", "_law_at", "_law_excess", "_law_whole", "_law_ahead", "_law_top_here", "_law_index", "_law_part"], 3, (.cons (.asp [(.n 3 false), (.n 4 false)] (.cons (.idx (.var 0) (.neg (.cst (.int 1)))) (.cons (.idx (.var 0) (.var 1)) .nil))) (.cons (.asg (.n 5 false) (.bin .div (.bin .mul (.var 2) (.var 4)) (.var 3))) (.cons f38_l0 (.cons (.ret (.cst (.bool false))) .nil))))⟩
def f39_b0 : IB := (.cons (.ifs (.call 38 "_law_drifts" (.cons (.var 4) (.cons (.var 1) (.cons (.ife (.cmp .eq (.var 2) (.cst (.int 2))) (.var 5) (.neg (.var 5))) .nil)))) (.cons (.ret (.cst (.bool false))) .nil) .nil) .nil)
def f39_l0 : IS := .fr (.n 5 false) (.rg2 (.cst (.int 1)) (.bin .add (.idx (.var 4) (.neg (.cst (.int 1)))) (.cst (.int 1)))) f39_b0
def f39_c0 : IE := .cm1 [("_law_index", 6)] (.bl1 .sum (.slc (.var 3) .no (.yes (.var 6)))) (.n 6 false) (.rg1 (.bin .add (.bl1 .len (.var 3)) (.cst (.int 1)))) .no
def f39_b1 : IB := (.cons (.asg (.n 3 false) (.call 30 "_law_rules" (.cons (.var 0) (.cons (.var 2) .nil)))) (.cons (.asg (.n 4 false) f39_c0) (.cons f39_l0 .nil)))
def f39_l1 : IS := .fr (.n 2 false) (.val (.tup (.cons (.cst (.int 2)) (.cons (.cst (.int 4)) .nil)))) f39_b1
def f39 : Df := ⟨"_law_may", ["_law_strip_here", "_law_at", "_law_way", "_law_rules_here", "_law_sums", "_law_excess", "_law_index"], 2, (.cons f39_l1 (.cons (.ret (.cst (.bool true))) .nil))⟩
def f40_b0 : IB := (.cons (.asg (.n 6 false) (.call 20 "set_halves" (.cons (.var 1) (.cons (.var 2) (.cons (.var 5) .nil))))) (.cons (.ifs (.or (.cmp .ne (.var 6) (.call 37 "_law_halves" (.cons (.var 1) (.cons (.var 2) (.cons (.var 5) .nil))))) (.and (.var 3) (.cmp .ne (.var 6) (.call 35 "_law_due" (.cons (.var 1) (.cons (.var 5) .nil)))))) (.cons (.ret (.cst (.bool false))) .nil) .nil) .nil))
def f40_l0 : IS := .fr (.n 5 false) (.val (.call 36 "_law_widths" (.lend 0 (.cons (.var 1) .nil)))) f40_b0
def f40 : Df := ⟨"_law_right", ["_law_cup_here", "_law_strip_here", "_law_at", "_law_due_here", "_law_shown", "_law_width", "_law_halves_here"], 3, (.cons (.asp [(.n 3 false), (.n 4 false)] (.cons (.call 39 "_law_may" (.cons (.var 1) (.cons (.var 2) .nil))) (.cons (.call 22 "cut_shown" (.cons (.var 1) (.cons (.var 2) .nil))) .nil))) (.cons (.ifs (.or (.cmp .ne (.bl1 .repr (.call 21 "may_cut" (.cons (.var 1) (.cons (.var 2) .nil)))) (.bl1 .repr (.var 3))) (.and (.var 3) (.cmp .isNot (.var 4) (.cst .none)))) (.cons (.ret (.cst (.bool false))) .nil) .nil) (.cons f40_l0 (.cons (.ifs (.var 3) (.cons (.ret (.cst (.bool true))) .nil) .nil) (.cons (.ifs (.or (.not (.isi (.var 4) .int)) (.or (.cmp .gt (.bl1 .abs (.var 4)) (.bin .pow (.cst (.int 10)) (.cst (.int 9)))) (.cmp .ne (.call 31 "_law_word" (.cons (.var 1) (.cons (.var 4) .nil))) (.cst (.str ""))))) (.cons (.ret (.cst (.bool false))) .nil) .nil) (.cons (.ret (.cmp .ne (.call 37 "_law_halves" (.cons (.var 1) (.cons (.var 2) (.cons (.var 4) .nil)))) (.call 35 "_law_due" (.cons (.var 1) (.cons (.var 4) .nil))))) .nil))))))⟩
def f41_c0 : IE := .cm1 [("_law_amount", 11)] (.tup (.cons (.cst (.str "space")) (.cons (.cst (.int 0)) (.cons (.var 11) (.cons (.cst (.int 0)) (.cons (.cst (.int 0)) (.cons (.cst (.int 0)) .nil))))))) (.n 11 false) (.val (.var 4)) .no
def f41_b0 : IB := (.cons (.asg (.n 8 false) (.bl1 .tuple f41_c0)) (.cons (.ifs (.not (.call 40 "_law_right" (.lend 1 (.cons (.var 8) (.cons (.var 5) .nil))))) (.cons (.ret (.cst (.bool false))) .nil) .nil) .nil))
def f41_l0 : IS := .fr (.t [(.n 4 false), (.n 5 false)]) (.val (.var 3)) f41_b0
def f41_c1 : IE := .cm1 [("_law_count", 10)] (.call 26 "_law_space" (.lend 1 (.cons (.cst (.int 7)) .nil))) (.n 10 false) (.rg1 (.bin .add (.cst (.int 1)) (.call 24 "_law_roll" (.lend 1 (.cons (.cst (.int 6)) .nil))))) .no
def f41_b1 : IB := (.cons (.asg (.n 8 false) (.call 28 "_law_strip" (.lend 1 (.cons (.cst (.int 16)) .nil)))) (.cons (.ifs (.not (.call 40 "_law_right" (.lend 1 (.cons (.var 8) (.cons (.call 24 "_law_roll" (.lend 1 (.cons (.bin .add (.bl1 .len (.var 8)) (.cst (.int 1))) .nil))) .nil))))) (.cons (.ret (.cst (.bool false))) .nil) .nil) (.cons (.asg (.n 9 false) (.bl1 .tuple f41_c1)) (.cons (.ifs (.not (.call 40 "_law_right" (.lend 1 (.cons (.var 9) (.cons (.call 24 "_law_roll" (.lend 1 (.cons (.bin .add (.bl1 .len (.var 9)) (.cst (.int 1))) .nil))) .nil))))) (.cons (.ret (.cst (.bool false))) .nil) .nil) .nil))))
def f41_l1 : IS := .fr (.n 2 false) (.rg1 (.cst (.int 3))) f41_b1
def f41 : Df := ⟨"law", ["_law_script", "_law_cup_here", "_law_turn", "_law_rows", "_law_amounts", "_law_at", "_law_d", "_law_alike", "_law_strip_here", "_law_spaces", "_law_count", "_law_amount"], 1, (.cons (.asg (.n 1 true) (.call 23 "_law_cup" (.cons (.var 0) .nil))) (.cons f41_l1 (.cons (.asg (.n 3 false) (.lst (.cons (.tup (.cons (.tup (.cons (.cst (.int 2)) (.cons (.cst (.int 1)) (.cons (.cst (.int 3)) .nil)))) (.cons (.cst (.int 2)) .nil))) (.cons (.tup (.cons (.tup (.cons (.cst (.int 1)) (.cons (.cst (.int 2)) (.cons (.cst (.int 3)) .nil)))) (.cons (.cst (.int 2)) .nil))) (.cons (.tup (.cons (.tup (.cons (.cst (.int 1)) (.cons (.cst (.int 1)) (.cons (.cst (.int 1)) (.cons (.cst (.int 1)) .nil))))) (.cons (.cst (.int 2)) .nil))) (.cons (.tup (.cons (.tup (.cons (.cst (.int 1)) (.cons (.cst (.int 2)) (.cons (.cst (.int 1)) .nil)))) (.cons (.cst (.int 2)) .nil))) (.cons (.tup (.cons (.tup (.cons (.cst (.int 2)) (.cons (.cst (.int 1)) .nil))) (.cons (.cst (.int 2)) .nil))) (.cons (.tup (.cons (.tup (.cons (.cst (.int 1)) (.cons (.cst (.int 1)) (.cons (.cst (.int 1)) .nil)))) (.cons (.cst (.int 2)) .nil))) (.cons (.tup (.cons (.tup (.cons (.cst (.int 3)) (.cons (.cst (.int 1)) (.cons (.cst (.int 2)) .nil)))) (.cons (.cst (.int 1)) .nil))) (.cons (.tup (.cons (.tup (.cons (.cst (.int 5)) (.cons (.cst (.int 0)) (.cons (.cst (.int 2)) .nil)))) (.cons (.cst (.int 1)) .nil))) (.cons (.tup (.cons (.tup (.cons (.cst (.int 2)) (.cons (.cst (.int 4)) (.cons (.cst (.int 6)) .nil)))) (.cons (.cst (.int 2)) .nil))) (.cons (.tup (.cons (.tup (.cons (.cst (.int 4)) (.cons (.cst (.int 2)) (.cons (.cst (.int 3)) .nil)))) (.cons (.cst (.int 2)) .nil))) .nil)))))))))))) (.cons f41_l0 (.cons (.asg (.n 6 false) (.tup (.cons (.tup (.cons (.cst (.str "space")) (.cons (.cst (.int 0)) (.cons (.cst (.int 2)) (.cons (.cst (.int 0)) (.cons (.cst (.int 0)) (.cons (.cst (.int 0)) .nil))))))) (.cons (.tup (.cons (.cst (.str "space")) (.cons (.cst (.int 0)) (.cons (.cst (.int 1)) (.cons (.cst (.int 0)) (.cons (.cst (.int 0)) (.cons (.cst (.int 0)) .nil))))))) (.cons (.tup (.cons (.cst (.str "space")) (.cons (.cst (.int 0)) (.cons (.cst (.int 3)) (.cons (.cst (.int 0)) (.cons (.cst (.int 0)) (.cons (.cst (.int 0)) .nil))))))) .nil))))) (.cons (.ifs (.or (.cmp .isNot (.call 21 "may_cut" (.cons (.var 6) (.cons (.cst (.int 2)) .nil))) (.cst (.bool false))) (.or (.cmp .ne (.call 20 "set_halves" (.cons (.var 6) (.cons (.cst (.int 2)) (.cons (.cst (.int 3)) .nil)))) (.tup (.cons (.cst (.str "set")) (.cons (.tup (.cons (.cst (.int 0)) (.cons (.cst (.int 0)) (.cons (.cst (.int 1)) (.cons (.cst (.int 3)) .nil))))) .nil)))) (.cmp .ne (.call 20 "set_halves" (.cons (.var 6) (.cons (.cst (.int 1)) (.cons (.neg (.cst (.int 1))) .nil)))) (.tup (.cons (.cst (.str "tight")) .nil))))) (.cons (.ret (.cst (.bool false))) .nil) .nil) (.cons (.asg (.n 7 false) (.tup (.cons (.tup (.cons (.cst (.str "space")) (.cons (.cst (.int 7)) (.cons (.cst (.int 1)) (.cons (.cst (.int 1)) (.cons (.cst (.int 4)) (.cons (.cst (.int 0)) .nil))))))) (.cons (.tup (.cons (.cst (.str "box")) (.cons (.var 6) .nil))) (.cons (.tup (.cons (.cst (.str "space")) (.cons (.cst (.int 0)) (.cons (.cst (.int 50)) (.cons (.cst (.int 0)) (.cons (.cst (.int 4)) (.cons (.cst (.int 0)) .nil))))))) .nil))))) (.cons (.ret (.and (.cmp .is (.call 21 "may_cut" (.cons (.var 7) (.cons (.cst (.int 1)) .nil))) (.cst (.bool true))) (.and (.cmp .is (.call 22 "cut_shown" (.cons (.var 7) (.cons (.cst (.int 2)) .nil))) (.cst .none)) (.cmp .eq (.call 20 "set_halves" (.cons (.tup .nil) (.cons (.cst (.int 0)) (.cons (.cst (.int 0)) .nil)))) (.tup (.cons (.cst (.str "set")) (.cons (.tup (.cons (.cst (.int 0)) .nil)) .nil))))))) .nil))))))))⟩
abbrev st (i : Nat) : Stmt := PySem.Challenge.pw_settlepages_k63_whole_strips_cut_ahead.main.body.getD i (.Pass ⟨0, 0, 0, 0⟩)
def T0 : List Dt := [⟨f0, defArgs (st 9), defBody (st 9), defScope (st 9)⟩, ⟨f1, defArgs (st 10), defBody (st 10), defScope (st 10)⟩, ⟨f2, defArgs (st 11), defBody (st 11), defScope (st 11)⟩, ⟨f3, defArgs (st 23), defBody (st 23), defScope (st 23)⟩, ⟨f4, defArgs (st 24), defBody (st 24), defScope (st 24)⟩, ⟨f5, defArgs (st 25), defBody (st 25), defScope (st 25)⟩, ⟨f6, defArgs (st 26), defBody (st 26), defScope (st 26)⟩, ⟨f7, defArgs (st 27), defBody (st 27), defScope (st 27)⟩, ⟨f8, defArgs (st 28), defBody (st 28), defScope (st 28)⟩, ⟨f9, defArgs (st 29), defBody (st 29), defScope (st 29)⟩, ⟨f10, defArgs (st 30), defBody (st 30), defScope (st 30)⟩, ⟨f11, defArgs (st 31), defBody (st 31), defScope (st 31)⟩, ⟨f12, defArgs (st 32), defBody (st 32), defScope (st 32)⟩, ⟨f13, defArgs (st 33), defBody (st 33), defScope (st 33)⟩, ⟨f14, defArgs (st 34), defBody (st 34), defScope (st 34)⟩, ⟨f15, defArgs (st 35), defBody (st 35), defScope (st 35)⟩, ⟨f16, defArgs (st 36), defBody (st 36), defScope (st 36)⟩, ⟨f17, defArgs (st 38), defBody (st 38), defScope (st 38)⟩, ⟨f18, defArgs (st 39), defBody (st 39), defScope (st 39)⟩, ⟨f19, defArgs (st 40), defBody (st 40), defScope (st 40)⟩]
def T1 : List Dt := [⟨f20, defArgs (st 41), defBody (st 41), defScope (st 41)⟩, ⟨f21, defArgs (st 42), defBody (st 42), defScope (st 42)⟩, ⟨f22, defArgs (st 43), defBody (st 43), defScope (st 43)⟩, ⟨f23, defArgs (st 45), defBody (st 45), defScope (st 45)⟩, ⟨f24, defArgs (st 46), defBody (st 46), defScope (st 46)⟩, ⟨f25, defArgs (st 47), defBody (st 47), defScope (st 47)⟩, ⟨f26, defArgs (st 48), defBody (st 48), defScope (st 48)⟩, ⟨f27, defArgs (st 49), defBody (st 49), defScope (st 49)⟩, ⟨f28, defArgs (st 50), defBody (st 50), defScope (st 50)⟩, ⟨f29, defArgs (st 51), defBody (st 51), defScope (st 51)⟩, ⟨f30, defArgs (st 52), defBody (st 52), defScope (st 52)⟩, ⟨f31, defArgs (st 53), defBody (st 53), defScope (st 53)⟩, ⟨f32, defArgs (st 54), defBody (st 54), defScope (st 54)⟩, ⟨f33, defArgs (st 55), defBody (st 55), defScope (st 55)⟩, ⟨f34, defArgs (st 56), defBody (st 56), defScope (st 56)⟩, ⟨f35, defArgs (st 57), defBody (st 57), defScope (st 57)⟩, ⟨f36, defArgs (st 58), defBody (st 58), defScope (st 58)⟩, ⟨f37, defArgs (st 59), defBody (st 59), defScope (st 59)⟩, ⟨f38, defArgs (st 60), defBody (st 60), defScope (st 60)⟩, ⟨f39, defArgs (st 61), defBody (st 61), defScope (st 61)⟩]
def T2 : List Dt := [⟨f40, defArgs (st 62), defBody (st 62), defScope (st 62)⟩, ⟨f41, defArgs (st 63), defBody (st 63), defScope (st 63)⟩]
def T : List Dt := T0 ++ T1 ++ T2
def bs : List Str := ["isinstance", "bool", "int", "len", "tuple", "str", "all", "sum", "max", "zip", "enumerate", "range", "abs", "list", "repr"]
def gl : List (Str × D) := [("SIGNS", (.str "abcdefghijklmnopqrstuvwxyzABCDEFGHIJKLMNOPQRSTUVWXYZ0123456789 !#$&'()*+,-./:;<=>?\x40[]^_`{|}~\"\n")), ("FAR", (.int 1000000)), ("DEAR", (.int 10000)), ("AMOUNT", (.int 100)), ("SHRINK", (.int 4)), ("STRETCH", (.int 2)), ("OTHERS", (.int 5)), ("MANY", (.int 60)), ("SUM", (.int 300)), ("GREATEST", (.int 1000000000)), ("SIGN", (.int 10))]
theorem hT : T.all (chD T bs gl) = true := by kernel_rfl
theorem hB : AllB T := ⟨fun _ _ _ _ _ _ us hl => match us, hl with | [_, _, _], _ => rfl, fun _ _ _ _ _ _ us hl => match us, hl with | [_, _, _], _ => rfl, fun _ _ _ _ _ _ us hl => match us, hl with | [_], _ => rfl, fun _ _ _ _ _ _ us hl => match us, hl with | [_], _ => rfl, fun _ _ _ _ _ _ us hl => match us, hl with | [_], _ => rfl, fun _ _ _ _ _ _ us hl => match us, hl with | [_, _, _], _ => rfl, fun _ _ _ _ _ _ us hl => match us, hl with | [_], _ => rfl, fun _ _ _ _ _ _ us hl => match us, hl with | [_], _ => rfl, fun _ _ _ _ _ _ us hl => match us, hl with | [_], _ => rfl, fun _ _ _ _ _ _ us hl => match us, hl with | [_], _ => rfl, fun _ _ _ _ _ _ us hl => match us, hl with | [_], _ => rfl, fun _ _ _ _ _ _ us hl => match us, hl with | [_], _ => rfl, fun _ _ _ _ _ _ us hl => match us, hl with | [_, _], _ => rfl, fun _ _ _ _ _ _ us hl => match us, hl with | [_, _], _ => rfl, fun _ _ _ _ _ _ us hl => match us, hl with | [_], _ => rfl, fun _ _ _ _ _ _ us hl => match us, hl with | [_, _], _ => rfl, fun _ _ _ _ _ _ us hl => match us, hl with | [_, _], _ => rfl, fun _ _ _ _ _ _ us hl => match us, hl with | [_, _, _], _ => rfl, fun _ _ _ _ _ _ us hl => match us, hl with | [_, _, _], _ => rfl, fun _ _ _ _ _ _ us hl => match us, hl with | [_, _], _ => rfl, fun _ _ _ _ _ _ us hl => match us, hl with | [_, _, _], _ => rfl, fun _ _ _ _ _ _ us hl => match us, hl with | [_, _], _ => rfl, fun _ _ _ _ _ _ us hl => match us, hl with | [_, _], _ => rfl, fun _ _ _ _ _ _ us hl => match us, hl with | [_], _ => rfl, fun _ _ _ _ _ _ us hl => match us, hl with | [_, _], _ => rfl, fun _ _ _ _ _ _ us hl => match us, hl with | [_, _], _ => rfl, fun _ _ _ _ _ _ us hl => match us, hl with | [_, _], _ => rfl, fun _ _ _ _ _ _ us hl => match us, hl with | [_, _, _], _ => rfl, fun _ _ _ _ _ _ us hl => match us, hl with | [_, _], _ => rfl, fun _ _ _ _ _ _ us hl => match us, hl with | [_], _ => rfl, fun _ _ _ _ _ _ us hl => match us, hl with | [_, _], _ => rfl, fun _ _ _ _ _ _ us hl => match us, hl with | [_, _], _ => rfl, fun _ _ _ _ _ _ us hl => match us, hl with | [_, _, _], _ => rfl, fun _ _ _ _ _ _ us hl => match us, hl with | [_, _], _ => rfl, fun _ _ _ _ _ _ us hl => match us, hl with | [_, _], _ => rfl, fun _ _ _ _ _ _ us hl => match us, hl with | [_, _], _ => rfl, fun _ _ _ _ _ _ us hl => match us, hl with | [_, _], _ => rfl, fun _ _ _ _ _ _ us hl => match us, hl with | [_, _, _], _ => rfl, fun _ _ _ _ _ _ us hl => match us, hl with | [_, _, _], _ => rfl, fun _ _ _ _ _ _ us hl => match us, hl with | [_, _], _ => rfl, fun _ _ _ _ _ _ us hl => match us, hl with | [_, _, _], _ => rfl, fun _ _ _ _ _ _ us hl => match us, hl with | [_], _ => rfl, trivial⟩
end K63

set_option linter.all false
set_option maxRecDepth 100000
set_option maxHeartbeats 0
namespace K63
open PySem PySem.Spec PyProof.Rows L2 Ev
abbrev R : PySem.W.OpenRow := PySem.W.OpenLaw.row PySem.Challenge.rw_settlepages_k63_whole_strips_cut_ahead
def fn : List He.DefD := T.map ddOf
def fa : List He.Fa := faOf T bs gl
abbrev hk : PySem.W.Hook := He.hookD 4 fa fn
def ob (s : PySem.W.SharedT) : He.AlD := He.obsDG 4 fa fn (HandSHeadRun.getT s)
theorem ob_eq (s : PySem.W.SharedT) : ob s = hk.obs s.abs := He.obsDG_eq (HandSHeadRun.getT_eq s)
def lo0 : List Str := ["SettleError", "InvalidIndex", "InvalidStrip", "InvalidWidth", "FIGURES", "LETTERS", "SIGNS", "is_whole", "is_row_of", "fits_sign", "MANY", "OTHERS", "SUM", "FAR", "DEAR", "AMOUNT", "SIGN", "GREATEST", "STRETCH", "SHRINK", "fits_thing", "spaces_in", "sum_with", "fits_strip", "need_strip", "need_width", "wide", "sum_of", "own_spaces", "ruling"]
def lo1 : List Str := ["amounts_of", "sums_ahead", "tops_of", "leaves_from", "need_index", "halves_part", "cutting_width", "set_halves", "may_cut", "cut_shown", "_law_cup", "_law_roll", "_law_some", "_law_space", "_law_thing", "_law_strip", "_law_wide", "_law_rules", "_law_word", "_law_top", "_law_inner", "_law_leaves", "_law_due", "_law_widths", "_law_halves", "_law_drifts", "_law_may", "_law_right"]
def loose : List Str := lo0 ++ lo1
theorem run (w : World) : HandSHeadRun.RunEq R (PySem.W.view R.prog [63]) hk ob 6000 loose w := by
  intro os
  kernel_rfl
end K63

set_option linter.all false
set_option maxRecDepth 100000
set_option maxHeartbeats 4000000
/-! The law's cup. -/
namespace K63
open PySem Ev
abbrev P : List Df := T.map (·.df)
abbrev W : Nat := 1000000
theorem step {n i : Nat} {ss : List Sl} {df : Df} (h : P[i]? = some df) (hl : ss.length = df.np) : callN P W (n + 1) i ss = endK ss (evB (callN P W n) W df.body (ss ++ List.replicate (df.names.length - df.np) .un)) := by
  have e : callN P W (n + 1) i ss = runDef (callN P W n) W df ss := by
    show (match P[i]? with | some df => runDef (callN P W n) W df ss | none => .stuck) = _
    rw [h]
  rw [e, runDef_eq _ _ _ _ hl]
/-- the cup -/
def cupD (g m : Int) : D := .list [.int g, .int m]
def Cup (d : D) : Prop := ∃ g m : Int, d = cupD g m ∧ 0 ≤ g ∧ 0 ≤ m
theorem mulOk_r {i j : Int} (h1 : -18446744073709551616 < j) (h2 : j < 18446744073709551616) : mulOk i j = true := by
  simp [mulOk, P64, h1, h2]
theorem mulOk_l {i j : Int} (h1 : -18446744073709551616 < i) (h2 : i < 18446744073709551616) : mulOk i j = true := by
  simp [mulOk, P64, h1, h2]
theorem s_roll (n : Nat) (g m k : Int) (hk : 0 < k) (hk2 : k < 1073741824) :
    callN P W (n + 1) 24 [.bor (cupD g m), .val (.int k)] = if 0 < g then .ok false (.int (g % k)) [cupD (g / k) m] else
      .ok false (.int ((((m * 28411 + 6007) % 2147483543 * ((m * 28411 + 6007) % 2147483543 + 149)) % 2147483579 / 811) % k)) [cupD g ((m * 28411 + 6007) % 2147483543)] := by
  rw [step (df := f24) rfl rfl]
  have h1 : mulOk m 28411 = true := mulOk_r (by decide) (by decide)
  have h2 : mulOk ((m * 28411 + 6007) % 2147483543) ((m * 28411 + 6007) % 2147483543 + 149) = true := mulOk_l (by omega) (by omega)
  simp [f24, b1, idx, atI, Ev.ixN, cupD, hk, hk2, h1, h2]
theorem roll_ok (n : Nat) {c : D} (hc : Cup c) {k : Int} (hk : 0 < k) (hk2 : k < 1073741824) : ∃ (j : Int) (c' : D), callN P W (n + 1) 24 [.bor c, .val (.int k)] = .ok false (.int j) [c'] ∧ 0 ≤ j ∧ j < k ∧ Cup c' := by
  obtain ⟨g, m, rfl, hg, hm⟩ := hc
  rw [s_roll n g m k hk hk2]
  by_cases h : 0 < g
  · rw [if_pos h]
    exact ⟨_, _, rfl, Int.emod_nonneg _ (by omega), Int.emod_lt_of_pos _ hk, _, _, rfl, Int.ediv_nonneg hg (by omega), hm⟩
  · rw [if_neg h]
    exact ⟨_, _, rfl, Int.emod_nonneg _ (by omega), Int.emod_lt_of_pos _ hk, _, _, rfl, hg, Int.emod_nonneg _ (by decide)⟩
theorem some_ok (n : Nat) {c : D} (hc : Cup c) {l : List D} (hl : l ≠ []) (hl2 : l.length < 1000) : ∃ (x : D) (c' : D), callN P W (n + 2) 25 [.bor c, .val (.list l)] = .ok false x [c'] ∧ x ∈ l ∧ Cup c' := by
  have h0 : 0 < l.length := List.length_pos_iff.mpr hl
  obtain ⟨j, c', e, j0, j1, hc'⟩ := roll_ok n hc (k := l.length) (by omega) (by omega)
  have hj : j.toNat < l.length := by omega
  refine ⟨l[j.toNat], c', ?_, List.getElem_mem hj, hc'⟩
  rw [step (df := f25) rfl rfl]
  have hix : idx (.list l) (.int j) = some l[j.toNat] := by
    have : Ev.ixN l.length j = some j.toNat := by simp [Ev.ixN, j0, j1]
    simp [idx, atI, this, hj]
  simp [f25, b1, e, hix]
theorem cup_ok (n : Nat) (ns : List Int) (hlen : ns.length ≤ 63) : ∃ c, callN P W (n + 1) 23 [.val (scriptD ns)] = .ok true c [] ∧ Cup c := by
  rw [step (df := f23) rfl rfl]
  have h0 : ∃ i : Int, idx (.list (ns.map PyData.int ++ [.int 0])) (.int 0) = some (.int i) := by
    cases ns with
    | nil => exact ⟨0, rfl⟩
    | cons i l =>
      refine ⟨i, ?_⟩
      have h : (0 : Int) < (l.length : Int) + 1 + 1 := by omega
      simp [idx, atI, Ev.ixN, h]
  obtain ⟨i, hi⟩ := h0
  have hz : ns.length + 1 ≤ SZ := by
    show ns.length + 1 ≤ 16777216
    omega
  have hz2 : ns.length ≤ 16777215 := by omega
  · have e1 : bop .add (.list (ns.map PyData.int)) (.list [.int 0]) = some (.f (.list (ns.map PyData.int ++ [.int 0]))) := by
      rw [bop_lst, if_pos (by simpa using hz)]
    have hm : ∀ j : Int, mulOk j 223 = true := fun j => mulOk_r (by decide) (by decide)
    by_cases hn : i < 0
    · by_cases hg : (1000000000000000000 : Int) ≤ -i
      · refine ⟨cupD (-i / 13) ((-i * 223 + 1013) % 2077504271 + 53), ?_, _, _, rfl, Int.ediv_nonneg (by omega) (by decide), by have := Int.emod_nonneg (-i * 223 + 1013) (show (2077504271 : Int) ≠ 0 by decide); omega⟩
        simp [f23, scriptD, b1, e1, hi, hn, hg, hm, hz2, bop, SZ, cupD]
      · refine ⟨cupD 0 ((-i * 223 + 1013) % 2077504271 + 53), ?_, _, _, rfl, by decide, by have := Int.emod_nonneg (-i * 223 + 1013) (show (2077504271 : Int) ≠ 0 by decide); omega⟩
        simp [f23, scriptD, b1, e1, hi, hn, hg, hm, hz2, bop, SZ, cupD]
    · by_cases hg : (1000000000000000000 : Int) ≤ i
      · refine ⟨cupD (i / 13) ((i * 223 + 1013) % 2077504271 + 53), ?_, _, _, rfl, Int.ediv_nonneg (by omega) (by decide), by have := Int.emod_nonneg (i * 223 + 1013) (show (2077504271 : Int) ≠ 0 by decide); omega⟩
        simp [f23, scriptD, b1, e1, hi, hn, hg, hm, hz2, bop, SZ, cupD]
      · refine ⟨cupD 0 ((i * 223 + 1013) % 2077504271 + 53), ?_, _, _, rfl, by decide, by have := Int.emod_nonneg (i * 223 + 1013) (show (2077504271 : Int) ≠ 0 by decide); omega⟩
        simp [f23, scriptD, b1, e1, hi, hn, hg, hm, hz2, bop, SZ, cupD]
/-! things -/
inductive Th where
  | sign (s : Str)
  | kern (n : Int)
  | place (n : Int)
  | space (w a o b p : Int)
  | box (l : List Th)
mutual
def enc : Th → D
  | .sign s => .tuple [.str "sign", .str s]
  | .kern n => .tuple [.str "kern", .int n]
  | .place n => .tuple [.str "place", .int n]
  | .space w a o b p => .tuple [.str "space", .int w, .int a, .int o, .int b, .int p]
  | .box l => .tuple [.str "box", .tuple (encs l)]
def encs : List Th → List D
  | [] => []
  | t :: l => enc t :: encs l
end
mutual
def cnt : Th → Nat
  | .box l => cnts l + 1
  | _ => 1
def cnts : List Th → Nat
  | [] => 0
  | t :: l => cnt t + cnts l
end
mutual
def wf : Th → Nat → Prop
  | .sign s, _ => s ∈ (["a", "B", "0", "!", " "] : List Str)
  | .kern n, _ => -7 ≤ n ∧ n ≤ 31
  | .place n, _ => 0 ≤ n ∧ n < 90
  | .space w a o b p, _ => (-3 ≤ w ∧ w ≤ 10) ∧ (0 ≤ a ∧ a ≤ 7) ∧ (0 ≤ o ∧ o ≤ 2) ∧ (0 ≤ b ∧ b ≤ 7) ∧ (0 ≤ p ∧ p ≤ 2)
  | .box l, d => 0 < d ∧ wfs l (d - 1)
def wfs : List Th → Nat → Prop
  | [], _ => True
  | t :: l, d => wf t d ∧ wfs l d
end
theorem int_mem {x : D} {l : List Int} (h : x ∈ l.map PyData.int) : ∃ i, x = .int i ∧ i ∈ l := by
  obtain ⟨i, hi, e⟩ := List.mem_map.mp h
  exact ⟨i, e.symm, hi⟩
theorem int_in {l : List Int} {lo hi : Int} (h : (l.all fun i => decide (lo ≤ i) && decide (i ≤ hi)) = true) {i : Int} (hi' : i ∈ l) : lo ≤ i ∧ i ≤ hi := by
  have := List.all_eq_true.mp h i hi'
  simpa using this
theorem space_ok (n : Nat) {c : D} (hc : Cup c) {q : Int} (hq : q = 6 ∨ q = 7) : ∃ (w a o b p : Int) (c' : D), callN P W (n + 3) 26 [.bor c, .val (.int q)] = .ok false (enc (.space w a o b p)) [c'] ∧ wf (.space w a o b p) 0 ∧ Cup c' := by
  have hq2 : 0 ≤ q ∧ q ≤ 7 := by omega
  obtain ⟨xa, c1, e1, m1, k1⟩ := some_ok n hc (l := [.int 0, .int 1, .int 2, .int 3, .int 5, .int q]) (by simp) (by simp)
  obtain ⟨xb, c2, e2, m2, k2⟩ := some_ok n k1 (l := [.int 0, .int 0, .int 1, .int 2, .int 4, .int q]) (by simp) (by simp)
  obtain ⟨xw, c3, e3, m3, k3⟩ := some_ok n k2 (l := [.int 10, .int 0, .int 4, .int 7, .int (-3)]) (by simp) (by simp)
  obtain ⟨xo, c4, e4, m4, k4⟩ := some_ok n k3 (l := [.int 0, .int 0, .int 0, .int 1, .int 2]) (by simp) (by simp)
  obtain ⟨xp, c5, e5, m5, k5⟩ := some_ok n k4 (l := [.int 0, .int 0, .int 0, .int 1, .int 2]) (by simp) (by simp)
  obtain ⟨a, rfl, ma⟩ := int_mem (l := [0, 1, 2, 3, 5, q]) m1
  obtain ⟨b, rfl, mb⟩ := int_mem (l := [0, 0, 1, 2, 4, q]) m2
  obtain ⟨w, rfl, mw⟩ := int_mem (l := [10, 0, 4, 7, -3]) m3
  obtain ⟨o, rfl, mo⟩ := int_mem (l := [0, 0, 0, 1, 2]) m4
  obtain ⟨p, rfl, mp⟩ := int_mem (l := [0, 0, 0, 1, 2]) m5
  refine ⟨w, a, o, b, p, c5, ?_, ⟨?_, ?_, ?_, ?_, ?_⟩, k5⟩
  · rw [step (df := f26) rfl rfl]
    simp [f26, SZ, e1, e2, e3, e4, e5, enc]
  · exact int_in (lo := -3) (hi := 10) (by decide) mw
  · exact int_in (lo := 0) (hi := 7) (by simp [hq2.1, hq2.2]) ma
  · exact int_in (lo := 0) (hi := 2) (by decide) mo
  · exact int_in (lo := 0) (hi := 7) (by simp [hq2.1, hq2.2]) mb
  · exact int_in (lo := 0) (hi := 2) (by decide) mp
end K63

set_option linter.all false
set_option maxRecDepth 100000
set_option maxHeartbeats 4000000
/-! Things and strips as the law draws them. -/
namespace K63
open PySem Ev
theorem encs_app : ∀ l k : List Th, encs (l ++ k) = encs l ++ encs k
  | [], k => rfl
  | t :: l, k => by
    show enc t :: encs (l ++ k) = enc t :: (encs l ++ encs k)
    rw [encs_app l k]
theorem encs_len : ∀ l : List Th, (encs l).length = l.length
  | [] => rfl
  | t :: l => by
    show (encs l).length + 1 = l.length + 1
    rw [encs_len l]
theorem cnts_app : ∀ l k : List Th, cnts (l ++ k) = cnts l + cnts k
  | [], k => by simp [cnts]
  | t :: l, k => by
    show cnt t + cnts (l ++ k) = cnt t + cnts l + cnts k
    rw [cnts_app l k]
    omega
theorem wfs_app : ∀ (l k : List Th) (d : Nat), wfs l d → wfs k d → wfs (l ++ k) d
  | [], k, d, _, h => h
  | t :: l, k, d, h, h2 => ⟨h.1, wfs_app l k d h.2 h2⟩
theorem cnt_pos : ∀ t : Th, 1 ≤ cnt t
  | .sign _ => Nat.le_refl _
  | .kern _ => Nat.le_refl _
  | .place _ => Nat.le_refl _
  | .space _ _ _ _ _ => Nat.le_refl _
  | .box l => by show 1 ≤ cnts l + 1; omega
theorem len_cnts : ∀ l : List Th, l.length ≤ cnts l
  | [] => Nat.le_refl _
  | t :: l => by
    have h1 := cnt_pos t
    have h2 := len_cnts l
    show l.length + 1 ≤ cnt t + cnts l
    omega
def roomD (m : Int) : D := .list [.int m]
abbrev S25 (c : D) (d m j : Int) (l : List Th) (s : Sl) : Ev.Env := [.bor c, .val (.int d), .bor (roomD m), .val (.int j), .val (.tuple (encs l)), s]
def Free (s : Sl) : Prop := s = .un ∨ ∃ v, s = .val v
theorem sto_free {s : Sl} (h : Free s) (t : Sl) (i : Nat) (r : Ev.Env) : stoK (some s) t i r = .ok () (r.set i t) := by
  rcases h with rfl | ⟨v, rfl⟩ <;> rfl
/-- what the drawing of a thing promises -/
def ThingOk (n : Nat) (d : Nat) : Prop := ∀ (c : D) (m : Int), Cup c → 1 ≤ m → m ≤ 100 → ∃ (t : Th) (c' : D), callN P W n 27 [.bor c, .val (.int d), .bor (roomD m)] = .ok false (enc t) [c', roomD (m - cnt t)] ∧ wf t d ∧ Cup c' ∧ (cnt t : Int) ≤ m
theorem loop25 (n d : Nat) (ih : ThingOk n d) (j : Int) : ∀ (xs : List D) (c : D) (m : Int) (l : List Th) (s : Sl), Free s → Cup c → 0 ≤ m → m ≤ 100 → l.length + m ≤ 100 →
    ∃ (c' : D) (m' : Int) (l' : List Th) (s' : Sl), forL (fun x r2 => (asn (.n 5 false) (.d x) r2).bind fun _ r3 => evB (callN P W n) W f27_b0 r3) xs (S25 c (d + 1) m j l s) = .ok .nx (S25 c' (d + 1) m' j (l ++ l') s') ∧ Cup c' ∧ 0 ≤ m' ∧ m' + cnts l' = m ∧ wfs l' d
  | [], c, m, l, s, hs, hc, h0, h1, h2 => ⟨c, m, [], s, by rw [List.append_nil]; rfl, hc, h0, by simp [cnts], trivial⟩
  | x :: xs, c, m, l, s, hs, hc, h0, h1, h2 => by
    by_cases hm : 0 < m
    · obtain ⟨t, c1, e1, w1, k1, q1⟩ := ih c m hc (by omega) h1
      have e1' : callN P W n 27 [.bor c, .val (.int ((d : Int) + 1 - 1)), .bor (roomD m)] = .ok false (enc t) [c1, roomD (m - cnt t)] := by
        have : (d : Int) + 1 - 1 = d := by omega
        rw [this]; exact e1
      have hp := cnt_pos t
      obtain ⟨c2, m2, l2, s2, e2, k2, g2, q2, w2⟩ := loop25 n d ih j xs c1 (m - cnt t) (l ++ [t]) (.val x) (.inr ⟨x, rfl⟩) k1 (by omega) (by omega) (by simp; omega)
      refine ⟨c2, m2, t :: l2, s2, ?_, k2, g2, ?_, w1, w2⟩
      · rw [for_nx (r' := S25 c1 (d + 1) (m - cnt t) j (l ++ [t]) (.val x)), e2]
        · rw [List.append_assoc]; rfl
        · have hz : (encs l).length + 1 ≤ SZ := by
            rw [encs_len]
            show _ ≤ 16777216
            omega
          have hz2 : (encs l).length ≤ 16777215 := by
            rw [encs_len]; omega
          have hb : bop .add (.tuple (encs l)) (.tuple [enc t]) = some (.d (.tuple (encs (l ++ [t])))) := by
            rw [bop_tup, encs_app]
            exact if_pos hz
          have hix : idx (roomD m) (.int 0) = some (.int m) := rfl
          simp [f27_b0, S25, sto_free hs, hix, hm, e1, hb, SZ]
      · show m2 + ((cnt t + cnts l2 : Nat) : Int) = m
        omega
    · have em : m = 0 := by omega
      subst em
      obtain ⟨c2, m2, l2, s2, e2, k2, g2, q2, w2⟩ := loop25 n d ih j xs c 0 l (.val x) (.inr ⟨x, rfl⟩) hc (by omega) (by omega) (by omega)
      refine ⟨c2, m2, l2, s2, ?_, k2, g2, q2, w2⟩
      rw [for_nx (r' := S25 c (d + 1) 0 j l (.val x)), e2]
      have hix : idx (roomD 0) (.int 0) = some (.int 0) := rfl
      simp [f27_b0, S25, sto_free hs, hix]
theorem roll_ge {N : Nat} (hN : 1 ≤ N) {c : D} (hc : Cup c) {k : Int} (hk : 0 < k) (hk2 : k < 1073741824) : ∃ (j : Int) (c' : D), callN P W N 24 [.bor c, .val (.int k)] = .ok false (.int j) [c'] ∧ 0 ≤ j ∧ j < k ∧ Cup c' := by
  obtain ⟨n, rfl⟩ := Nat.exists_eq_add_of_le hN
  rw [Nat.add_comm]
  exact roll_ok n hc hk hk2
theorem some_ge {N : Nat} (hN : 2 ≤ N) {c : D} (hc : Cup c) {l : List D} (hl : l ≠ []) (hl2 : l.length < 1000) : ∃ (x : D) (c' : D), callN P W N 25 [.bor c, .val (.list l)] = .ok false x [c'] ∧ x ∈ l ∧ Cup c' := by
  obtain ⟨n, rfl⟩ := Nat.exists_eq_add_of_le hN
  rw [Nat.add_comm]
  exact some_ok n hc hl hl2
theorem space_ge {N : Nat} (hN : 3 ≤ N) {c : D} (hc : Cup c) {q : Int} (hq : q = 6 ∨ q = 7) : ∃ (w a o b p : Int) (c' : D), callN P W N 26 [.bor c, .val (.int q)] = .ok false (enc (.space w a o b p)) [c'] ∧ wf (.space w a o b p) 0 ∧ Cup c' := by
  obtain ⟨n, rfl⟩ := Nat.exists_eq_add_of_le hN
  rw [Nat.add_comm]
  exact space_ok n hc hq
theorem room_set (m v : Int) (i : Nat) (r : Ev.Env) : setK (some (roomD m)) (some (.int 0)) i (.int v) r = .ok .nx (setAt r i (roomD v)) := rfl
theorem room_get (m : Int) : idx (roomD m) (.int 0) = some (.int m) := rfl
theorem small {j : Int} (h : 0 ≤ j) (h2 : j < 1000000) : small62 j = true := by
  unfold small62 P62
  simp
  omega
theorem for25 {N d : Nat} (hN : 1 ≤ N) (ih : ThingOk N d) (j : Int) {c : D} {m : Int} (hc : Cup c) (h0 : 0 ≤ m) (h1 : m ≤ 100) :
    ∃ (c' : D) (m' : Int) (l' : List Th) (s' : Sl), evS (callN P W N) W f27_l0 (S25 c (d + 1) m j [] .un) = .ok .nx (S25 c' (d + 1) m' j l' s') ∧ Cup c' ∧ 0 ≤ m' ∧ m' + cnts l' = m ∧ wfs l' d := by
  obtain ⟨k, c1, e1, k0, k1, hc1⟩ := roll_ge hN hc (k := 4) (by decide) (by decide)
  obtain ⟨c2, m2, l2, s2, e2, k2, g2, q2, w2⟩ := loop25 N d ih j (rng 0 k.toNat) c1 m [] .un (.inl rfl) hc1 h0 h1 (by simp; omega)
  refine ⟨c2, m2, l2, s2, ?_, k2, g2, q2, w2⟩
  have ei : evI (callN P W N) (.rg1 (.call 24 "_law_roll" (.lend 0 (.cons (.cst (.int 4)) .nil)))) (S25 c (d + 1) m j [] .un) = .ok (rng 0 k.toNat) (S25 c1 (d + 1) m j [] .un) := by
    simp [S25, e1, small k0 (by omega)]
  show (evI _ _ _).bind _ = _
  rw [ei]
  exact e2
theorem thing_ok : ∀ (d N : Nat), d + 4 ≤ N → ThingOk N d
  | d, N, hN, c, m, hc, hm, hm2 => by
    obtain ⟨M, rfl⟩ : ∃ M, N = M + 1 := ⟨N - 1, by omega⟩
    obtain ⟨j, c1, e1, j0, j1, k1⟩ := roll_ge (N := M) (by omega) hc (k := 9) (by decide) (by decide)
    by_cases a1 : j < 2
    · obtain ⟨x, c2, e2, m2, k2⟩ := some_ge (N := M) (by omega) k1 (l := [.str "a", .str "B", .str "0", .str "!", .str " "]) (by simp) (by simp)
      obtain ⟨s, rfl, hs⟩ : ∃ s, x = .str s ∧ s ∈ (["a", "B", "0", "!", " "] : List Str) := by
        simp at m2
        rcases m2 with rfl | rfl | rfl | rfl | rfl <;> exact ⟨_, rfl, by simp⟩
      refine ⟨.sign s, c2, ?_, hs, k2, by show ((1 : Nat) : Int) ≤ m; omega⟩
      rw [step (df := f27) rfl rfl]
      simp [f27, room_get, room_set, e1, a1, e2, SZ, enc, cnt]
    · by_cases a2 : j = 2
      · obtain ⟨x, c2, e2, m2, k2⟩ := some_ge (N := M) (by omega) k1 (l := [.int 0, .int 5, .int (-7), .int 20, .int 31]) (by simp) (by simp)
        obtain ⟨i, rfl, hi⟩ := int_mem (l := [0, 5, -7, 20, 31]) m2
        refine ⟨.kern i, c2, ?_, int_in (lo := -7) (hi := 31) (by decide) hi, k2, by show ((1 : Nat) : Int) ≤ m; omega⟩
        subst a2
        rw [step (df := f27) rfl rfl]
        simp [f27, room_get, room_set, e1, e2, SZ, enc, cnt]
      · by_cases a3 : j < 5 ∧ 0 < d
        · obtain ⟨d', rfl⟩ : ∃ d', d = d' + 1 := ⟨d - 1, by omega⟩
          have ih := thing_ok d' M (by omega)
          obtain ⟨c2, m2, l2, s2, e2, k2, g2, q2, w2⟩ := for25 (by omega) ih j k1 (m := m - 1) (by omega) (by omega)
          refine ⟨.box l2, c2, ?_, ⟨by omega, w2⟩, k2, ?_⟩
          · rw [step (df := f27) rfl rfl]
            have hd : (0 : Int) < (d' : Int) + 1 := by omega
            have em : m2 = m - ((cnts l2 : Int) + 1) := by omega
            simp [S25, encs] at e2
            simp [f27, room_get, room_set, e1, a1, a2, a3.1, hd, e2, SZ, enc, cnt, em]
          · show ((cnts l2 + 1 : Nat) : Int) ≤ m
            omega
        · obtain ⟨w, a, o, b, p, c2, e2, w2, k2⟩ := space_ge (N := M) (by omega) k1 (q := 6) (.inl rfl)
          refine ⟨.space w a o b p, c2, ?_, w2, k2, by show ((1 : Nat) : Int) ≤ m; omega⟩
          rw [step (df := f27) rfl rfl]
          by_cases a4 : j < 5
          · have hd : ¬ (0 : Int) < (d : Int) := by omega
            simp [f27, room_get, room_set, e1, a1, a2, a4, hd, e2, SZ, enc, cnt]
            intro h
            exact absurd h (by omega)
          · simp [f27, room_get, room_set, e1, a1, a2, a4, e2, SZ, enc, cnt]
/-! a strip -/
abbrev S26 (c : D) (q m : Int) (l : List Th) (s : Sl) : Ev.Env := [.bor c, .val (.int q), .val (.tuple (encs l)), .own (roomD m), s]
theorem wfs_le : ∀ (l : List Th) (d : Nat), wfs l d → ∀ t ∈ l, wf t d
  | t :: l, d, h, x, hx => by
    rcases List.mem_cons.mp hx with rfl | hx
    · exact h.1
    · exact wfs_le l d h.2 x hx
theorem loop26 (N : Nat) (hN : 6 ≤ N) (q : Int) : ∀ (xs : List D) (c : D) (m : Int) (l : List Th) (s : Sl), Free s → Cup c → 0 ≤ m → m ≤ 100 → l.length + xs.length ≤ 100 →
    ∃ (c' : D) (m' : Int) (l' : List Th) (s' : Sl), forL (fun x r2 => (asn (.n 4 false) (.d x) r2).bind fun _ r3 => evB (callN P W N) W f28_b0 r3) xs (S26 c q m l s) = .ok .nx (S26 c' q m' (l ++ l') s') ∧ Cup c' ∧ 0 ≤ m' ∧ m' + cnts l' ≤ m + xs.length ∧ wfs l' 2 ∧ l'.length ≤ xs.length
  | [], c, m, l, s, hs, hc, h0, h1, h2 => ⟨c, m, [], s, by rw [List.append_nil]; rfl, hc, h0, by simp [cnts], trivial, Nat.le_refl _⟩
  | x :: xs, c, m, l, s, hs, hc, h0, h1, h2 => by
    have hl : l.length + (xs.length + 1) ≤ 100 := h2
    by_cases hm : 0 < m
    · have hz2 : (encs l).length ≤ 16777215 := by
        rw [encs_len]; omega
      have hb : ∀ t : Th, bop .add (.tuple (encs l)) (.tuple [enc t]) = some (.d (.tuple (encs (l ++ [t])))) := fun t => by
        rw [bop_tup, encs_app]
        refine if_pos ?_
        show (encs l).length + 1 ≤ 16777216
        omega
      obtain ⟨j, c0, ej, j0, j1, k0⟩ := roll_ge (N := N) (by omega) hc (k := 9) (by decide) (by decide)
      by_cases hj : j = 0
      · subst hj
        obtain ⟨i, c1, ei, i0, i1, k1⟩ := roll_ge (N := N) (by omega) k0 (k := 90) (by decide) (by decide)
        obtain ⟨c2, m2, l2, s2, e2, k2, g2, q2, w2, n2⟩ := loop26 N hN q xs c1 m (l ++ [.place i]) (.val x) (.inr ⟨x, rfl⟩) k1 h0 h1 (by simp; omega)
        refine ⟨c2, m2, .place i :: l2, s2, ?_, k2, g2, ?_, ⟨⟨i0, i1⟩, w2⟩, by simp; omega⟩
        · rw [for_nx (r' := S26 c1 q m (l ++ [.place i]) (.val x)), e2]
          · rw [List.append_assoc]; rfl
          · have hb' : bop .add (.tuple (encs l)) (.tuple [.tuple [.str "place", .int i]]) = some (.d (.tuple (encs (l ++ [.place i])))) := hb (.place i)
            simp [f28_b0, S26, sto_free hs, room_get, hm, ej, ei, SZ, hb']
        · show m2 + ((1 + cnts l2 : Nat) : Int) ≤ m + ((xs.length + 1 : Nat) : Int)
          omega
      · obtain ⟨t, c1, e1, w1, k1, q1⟩ := thing_ok 2 N (by omega) c0 m k0 (by omega) h1
        have e1' : callN P W N 27 [.bor c0, .val (.int 2), .bor (roomD m)] = .ok false (enc t) [c1, roomD (m - cnt t)] := e1
        have hp := cnt_pos t
        obtain ⟨c2, m2, l2, s2, e2, k2, g2, q2, w2, n2⟩ := loop26 N hN q xs c1 (m - cnt t) (l ++ [t]) (.val x) (.inr ⟨x, rfl⟩) k1 (by omega) (by omega) (by simp; omega)
        refine ⟨c2, m2, t :: l2, s2, ?_, k2, g2, ?_, ⟨w1, w2⟩, by simp; omega⟩
        · rw [for_nx (r' := S26 c1 q (m - cnt t) (l ++ [t]) (.val x)), e2]
          · rw [List.append_assoc]; rfl
          · simp [f28_b0, S26, sto_free hs, room_get, hm, ej, hj, e1', SZ, hb t]
        · show m2 + ((cnt t + cnts l2 : Nat) : Int) ≤ m + ((xs.length + 1 : Nat) : Int)
          omega
    · have em : m = 0 := by omega
      subst em
      obtain ⟨c2, m2, l2, s2, e2, k2, g2, q2, w2, n2⟩ := loop26 N hN q xs c 0 l (.val x) (.inr ⟨x, rfl⟩) hc (by omega) (by omega) (by omega)
      refine ⟨c2, m2, l2, s2, ?_, k2, g2, ?_, w2, by simp; omega⟩
      · rw [for_nx (r' := S26 c q 0 l (.val x)), e2]
        simp [f28_b0, S26, sto_free hs, room_get]
      · show m2 + (cnts l2 : Int) ≤ 0 + ((xs.length + 1 : Nat) : Int)
        omega
theorem rng_length : ∀ (n : Nat) (i : Int), (rng i n).length = n
  | 0, _ => rfl
  | n + 1, i => by
    show (rng (i + 1) n).length + 1 = n + 1
    rw [rng_length]
/-- a strip as the law draws it -/
theorem strip_ok {N : Nat} (hN : 7 ≤ N) {c : D} (hc : Cup c) {q : Int} (h0 : 0 ≤ q) (h1 : q ≤ 50) : ∃ (l : List Th) (c' : D), callN P W N 28 [.bor c, .val (.int q)] = .ok false (.tuple (encs l)) [c'] ∧ Cup c' ∧ wfs l 2 ∧ (cnts l : Int) ≤ q + 8 ∧ l.length ≤ 8 := by
  obtain ⟨M, rfl⟩ : ∃ M, N = M + 1 := ⟨N - 1, by omega⟩
  obtain ⟨j, c0, ej, j0, j1, k0⟩ := roll_ge (N := M) (by omega) hc (k := 9) (by decide) (by decide)
  obtain ⟨c2, m2, l2, s2, e2, k2, g2, q2, w2, n2⟩ := loop26 M (by omega) q (rng 0 j.toNat) c0 q [] .un (.inl rfl) k0 h0 (by omega) (by rw [rng_length]; simp; omega)
  rw [rng_length] at q2 n2
  refine ⟨l2, c2, ?_, k2, w2, by omega, by omega⟩
  have ei : evI (callN P W M) (.rg1 (.call 24 "_law_roll" (.lend 0 (.cons (.cst (.int 9)) .nil)))) (S26 c q q [] .un) = .ok (rng 0 j.toNat) (S26 c0 q q [] .un) := by
    simp [S26, ej, small j0 (by omega)]
  have ef : evS (callN P W M) W f28_l0 (S26 c q q [] .un) = .ok .nx (S26 c2 q m2 l2 s2) := by
    show (evI _ _ _).bind _ = _
    rw [ei]
    exact e2
  rw [step (df := f28) rfl rfl]
  simp [S26, encs, roomD] at ef
  simp [f28, SZ, ef, roomD]
end K63

set_option linter.all false
set_option maxRecDepth 100000
set_option maxHeartbeats 4000000
/-! Widths. -/
namespace K63
open PySem Ev
@[simp] theorem n_sign_box : (Str.ofString "sign" = Str.ofString "box") = False := eq_false (by decide +kernel)
@[simp] theorem n_sign_kern : (Str.ofString "sign" = Str.ofString "kern") = False := eq_false (by decide +kernel)
@[simp] theorem n_sign_place : (Str.ofString "sign" = Str.ofString "place") = False := eq_false (by decide +kernel)
@[simp] theorem n_sign_space : (Str.ofString "sign" = Str.ofString "space") = False := eq_false (by decide +kernel)
@[simp] theorem n_box_sign : (Str.ofString "box" = Str.ofString "sign") = False := eq_false (by decide +kernel)
@[simp] theorem n_box_kern : (Str.ofString "box" = Str.ofString "kern") = False := eq_false (by decide +kernel)
@[simp] theorem n_box_place : (Str.ofString "box" = Str.ofString "place") = False := eq_false (by decide +kernel)
@[simp] theorem n_box_space : (Str.ofString "box" = Str.ofString "space") = False := eq_false (by decide +kernel)
@[simp] theorem n_kern_sign : (Str.ofString "kern" = Str.ofString "sign") = False := eq_false (by decide +kernel)
@[simp] theorem n_kern_box : (Str.ofString "kern" = Str.ofString "box") = False := eq_false (by decide +kernel)
@[simp] theorem n_kern_place : (Str.ofString "kern" = Str.ofString "place") = False := eq_false (by decide +kernel)
@[simp] theorem n_kern_space : (Str.ofString "kern" = Str.ofString "space") = False := eq_false (by decide +kernel)
@[simp] theorem n_place_sign : (Str.ofString "place" = Str.ofString "sign") = False := eq_false (by decide +kernel)
@[simp] theorem n_place_box : (Str.ofString "place" = Str.ofString "box") = False := eq_false (by decide +kernel)
@[simp] theorem n_place_kern : (Str.ofString "place" = Str.ofString "kern") = False := eq_false (by decide +kernel)
@[simp] theorem n_place_space : (Str.ofString "place" = Str.ofString "space") = False := eq_false (by decide +kernel)
@[simp] theorem n_space_sign : (Str.ofString "space" = Str.ofString "sign") = False := eq_false (by decide +kernel)
@[simp] theorem n_space_box : (Str.ofString "space" = Str.ofString "box") = False := eq_false (by decide +kernel)
@[simp] theorem n_space_kern : (Str.ofString "space" = Str.ofString "kern") = False := eq_false (by decide +kernel)
@[simp] theorem n_space_place : (Str.ofString "space" = Str.ofString "place") = False := eq_false (by decide +kernel)
mutual
def wd : Th → Int
  | .sign _ => 10
  | .kern n => n
  | .place _ => 0
  | .space w _ _ _ _ => w
  | .box l => wds l
def wds : List Th → Int
  | [] => 0
  | t :: l => wd t + wds l
end
theorem encs_map : ∀ l : List Th, encs l = l.map enc
  | [] => rfl
  | t :: l => by
    show enc t :: encs l = enc t :: l.map enc
    rw [encs_map l]
theorem wds_sum : ∀ l : List Th, (l.map wd).sum = wds l
  | [] => rfl
  | t :: l => by
    rw [List.map_cons, List.sum_cons, wds_sum l]
    rfl
theorem wds_app : ∀ l k : List Th, wds (l ++ k) = wds l + wds k
  | [], k => by simp [wds]
  | t :: l, k => by
    show wd t + wds (l ++ k) = wd t + wds l + wds k
    rw [wds_app l k]
    omega
theorem ints_map {α : Type} (f : α → Int) : ∀ l : List α, intsL (l.map fun a => .int (f a)) = some (l.map f)
  | [] => rfl
  | a :: l => by
    show (intsL (l.map fun a => .int (f a))).map (f a :: ·) = _
    rw [ints_map f l]
    rfl
theorem len_small {l : List Th} (h : cnts l ≤ 100) : l.length ≤ SZ := by
  have := len_cnts l
  show l.length ≤ 16777216
  omega
/-- the names by what a thing is -/
theorem idx0 (l : List D) (x : D) : idx (.tuple (x :: l)) (.int 0) = some x := by
  have h : (0 : Int) < (l.length : Int) + 1 := by omega
  simp [idx, atI, Ev.ixN, h]
theorem idx1 (l : List D) (x y : D) : idx (.tuple (x :: y :: l)) (.int 1) = some y := by
  have h : (1 : Int) < (l.length : Int) + 1 + 1 := by omega
  simp [idx, atI, Ev.ixN, h]
def SumOk (N d : Nat) : Prop := ∀ l : List Th, wfs l d → cnts l ≤ 100 → callN P W N 10 [.val (.tuple (encs l))] = .ok false (.int (wds l)) []
def WideOk (N d : Nat) : Prop := ∀ t : Th, wf t d → cnt t ≤ 100 → callN P W N 9 [.val (enc t)] = .ok false (.int (wd t)) []
theorem cnt_le : ∀ {l : List Th} {t : Th}, t ∈ l → cnt t ≤ cnts l
  | x :: l, t, h => by
    rcases List.mem_cons.mp h with rfl | h
    · show cnt t ≤ cnt t + cnts l; omega
    · have := cnt_le h
      show cnt t ≤ cnt x + cnts l; omega
theorem sum_of_wide {N d : Nat} (h : WideOk N d) : SumOk (N + 1) d := by
  intro l hw hc
  rw [step (df := f10) rfl rfl]
  have e : (ev (callN P W N) f10_c0).1 [.val (.tuple (encs l)), .un] = .ok (.f (.list (l.map fun t => .int (wd t)))) [.val (.tuple (encs l)), .un] := by
    refine e_map (xs := l) (en := enc) (fun t => .int (wd t)) ?_ (fun t ht => ?_) (len_small hc)
    · simp [itemsOf, encs_map]
    · have e1 := h t (wfs_le l d hw t ht) (Nat.le_trans (cnt_le ht) hc)
      refine ⟨_, by simp [item, wipeE, e1]; rfl, by simp [wipeE]⟩
  simp [f10, e, b1, ints_map, wds_sum]
theorem wide_of_sum {N d : Nat} (h : ∀ d', d = d' + 1 → SumOk N d') : WideOk (N + 1) d := by
  intro t hw hc
  rw [step (df := f9) rfl rfl]
  cases t with
  | sign s => simp [f9, enc, idx0, wd]
  | kern n => simp [f9, enc, idx0, idx1, wd]
  | place n => simp [f9, enc, idx0, wd]
  | space w a o b p => simp [f9, enc, idx0, idx1, wd]
  | box l =>
    obtain ⟨h1, h2⟩ := hw
    have e := h (d - 1) (by omega) l h2 (by have : cnts l + 1 ≤ 100 := hc; omega)
    simp [f9, enc, idx0, idx1, e, wd]
theorem wide_all : ∀ d : Nat, (∀ N, 2 * d + 1 ≤ N → WideOk N d) ∧ ∀ N, 2 * d + 2 ≤ N → SumOk N d
  | 0 => by
    have a : ∀ N, 2 * 0 + 1 ≤ N → WideOk N 0 := fun N hN => by
      obtain ⟨M, rfl⟩ : ∃ M, N = M + 1 := ⟨N - 1, by omega⟩
      exact wide_of_sum fun d' hd => by omega
    refine ⟨a, fun N hN => ?_⟩
    obtain ⟨M, rfl⟩ : ∃ M, N = M + 1 := ⟨N - 1, by omega⟩
    exact sum_of_wide (a M (by omega))
  | d + 1 => by
    have ih := wide_all d
    have a : ∀ N, 2 * (d + 1) + 1 ≤ N → WideOk N (d + 1) := fun N hN => by
      obtain ⟨M, rfl⟩ : ∃ M, N = M + 1 := ⟨N - 1, by omega⟩
      refine wide_of_sum fun d' hd => ?_
      have : d' = d := by omega
      subst this
      exact ih.2 M (by omega)
    refine ⟨a, fun N hN => ?_⟩
    obtain ⟨M, rfl⟩ : ∃ M, N = M + 1 := ⟨N - 1, by omega⟩
    exact sum_of_wide (a M (by omega))
/-! the law's own widths -/
theorem disp2 : dispD [.str "sign", .str "place"] [.int 10, .int 0] = some [(.str "sign", .int 10), (.str "place", .int 0)] := by rfl
theorem g_sign : getD1 (.dict [(.str "sign", .int 10), (.str "place", .int 0)]) (.str "sign") = some (some (.int 10)) := by rfl
theorem g_place : getD1 (.dict [(.str "sign", .int 10), (.str "place", .int 0)]) (.str "place") = some (some (.int 0)) := by rfl
theorem g_kern : getD1 (.dict [(.str "sign", .int 10), (.str "place", .int 0)]) (.str "kern") = some none := by rfl
theorem g_space : getD1 (.dict [(.str "sign", .int 10), (.str "place", .int 0)]) (.str "space") = some none := by rfl
def LawWide (N d : Nat) : Prop := ∀ l : List Th, wfs l d → cnts l ≤ 100 → callN P W N 29 [.val (.tuple (encs l))] = .ok false (.int (wds l)) []
theorem loop27 {N d : Nat} (h : ∀ d', d = d' + 1 → LawWide N d') (v : D) : ∀ (l : List Th) (a : Int) (s : Sl), Free s → wfs l d → cnts l ≤ 100 →
    ∃ s', forL (fun x r2 => (asn (.n 2 false) (.d x) r2).bind fun _ r3 => evB (callN P W N) W f29_b0 r3) (encs l) [.val v, .val (.int a), s] = .ok .nx [.val v, .val (.int (a + wds l)), s']
  | [], a, s, hs, hw, hc => ⟨s, by simp [encs, wds, forL]⟩
  | t :: l, a, s, hs, hw, hc => by
    have hc' : cnt t + cnts l ≤ 100 := hc
    obtain ⟨s', e⟩ := loop27 h v l (a + wd t) (.val (enc t)) (.inr ⟨_, rfl⟩) hw.2 (by omega)
    refine ⟨s', ?_⟩
    show forL _ (enc t :: encs l) _ = _
    rw [for_nx (r' := [.val v, .val (.int (a + wd t)), .val (enc t)]), e]
    · show _ = Res.ok Fl.nx [Sl.val v, Sl.val (.int (a + (wd t + wds l))), s']
      rw [Int.add_assoc]
    · have w1 := hw.1
      cases t with
      | sign s => simp [f29_b0, sto_free hs, enc, idx0, idx1, wd, disp2, g_sign, isDict]
      | kern n => simp [f29_b0, sto_free hs, enc, idx0, idx1, wd, disp2, g_kern, isDict]
      | place n => simp [f29_b0, sto_free hs, enc, idx0, idx1, wd, disp2, g_place, isDict]
      | space w a o b p => simp [f29_b0, sto_free hs, enc, idx0, idx1, wd, disp2, g_space, isDict]
      | box k =>
        obtain ⟨h1, h2⟩ := w1
        have e := h (d - 1) (by omega) k h2 (by have : cnts k + 1 + cnts l ≤ 100 := hc'; omega)
        simp [f29_b0, sto_free hs, enc, idx0, idx1, wd, e]
theorem law_wide : ∀ (d N : Nat), d + 1 ≤ N → LawWide N d
  | d, N, hN, l, hw, hc => by
    obtain ⟨M, rfl⟩ : ∃ M, N = M + 1 := ⟨N - 1, by omega⟩
    obtain ⟨s', e⟩ := loop27 (N := M) (d := d) (fun d' hd => by subst hd; exact law_wide d' M (by omega)) (.tuple (encs l)) l 0 .un (.inl rfl) hw hc
    have ef : evS (callN P W M) W f29_l0 [.val (.tuple (encs l)), .val (.int 0), .un] = .ok .nx [.val (.tuple (encs l)), .val (.int (wds l)), s'] := by
      rw [show f29_l0 = IS.fr (.n 2 false) (.val (.var 0)) f29_b0 from rfl, s_for]
      have ei : evI (callN P W M) (.val (.var 0)) [.val (.tuple (encs l)), .val (.int 0), .un] = .ok (encs l) [.val (.tuple (encs l)), .val (.int 0), .un] := by simp [itemsOf]
      rw [ei]
      simpa using e
    rw [step (df := f29) rfl rfl]
    simp [f29, ef]
end K63

set_option linter.all false
set_option maxRecDepth 100000
set_option maxHeartbeats 4000000
/-! Rules. -/
namespace K63
open PySem Ev
def wy (up : Bool) : Int := if up = true then 2 else 4
def isSp : Th → Bool
  | .space _ _ _ _ _ => true
  | _ => false
def am (up : Bool) : Th → Int
  | .space _ a _ b _ => if up = true then a else b
  | _ => 0
def od (up : Bool) : Th → Int
  | .space _ _ o _ p => if up = true then o else p
  | _ => 0
def isPos (up : Bool) (t : Th) : Bool := isSp t && decide (0 < am up t)
def ords (up : Bool) (l : List Th) : List Int := (l.filter (isPos up)).map (od up)
def topL : List Int → Int
  | [] => 0
  | x :: r => maxL x r
def tp (up : Bool) (l : List Th) : Int := topL (ords up l ++ [0])
def ruT (up : Bool) (q : Int) (t : Th) : Int := if isSp t = true ∧ od up t = q then am up t else 0
def ru (up : Bool) (l : List Th) : List Int := l.map (ruT up (tp up l))
theorem idxw (up : Bool) (w a o b p : Int) (x : D) : idx (.tuple [x, .int w, .int a, .int o, .int b, .int p]) (.int (wy up)) = some (.int (am up (.space w a o b p))) := by
  cases up <;> rfl
theorem idxo (up : Bool) (w a o b p : Int) (x : D) : idx (.tuple [x, .int w, .int a, .int o, .int b, .int p]) (.int (wy up + 1)) = some (.int (od up (.space w a o b p))) := by
  cases up <;> rfl
theorem max_ints (l : List Int) (hl : l ≠ []) : b1 .max (.list (l.map PyData.int)) = some (.d (.int (topL l))) := by
  cases l with
  | nil => exact absurd rfl hl
  | cons x r =>
    have e := ints_map (fun i : Int => i) (x :: r)
    rw [List.map_id'] at e
    show (match intsL _ with | some (x :: r) => some (TV.d (.int (maxL x r))) | _ => none) = _
    rw [show List.map PyData.int (x :: r) = List.map (fun a => PyData.int a) (x :: r) from rfl, e]
    rfl
theorem orders28 (N : Nat) (up : Bool) (l : List Th) (hc : cnts l ≤ 100) (s2 s3 s4 : Sl) : (ev (callN P W N) f30_c1).1 [.val (.tuple (encs l)), .val (.int (wy up)), s2, s3, s4] = .ok (.f (.list ((ords up l).map PyData.int))) [.val (.tuple (encs l)), .val (.int (wy up)), s2, s3, s4] := by
  have e := e_filter (call := callN P W N) (own := [("_law_thing_here", 4)]) (elt := .idx (.var 4) (.bin .add (.var 1) (.cst (.int 1)))) (t := .n 4 false) (it := .val (.var 0)) (c := .yes (.and (.cmp .eq (.idx (.var 4) (.cst (.int 0))) (.cst (.str "space"))) (.cmp .gt (.idx (.var 4) (.var 1)) (.cst (.int 0)))))
    (r := [.val (.tuple (encs l)), .val (.int (wy up)), s2, s3, s4]) (r1 := [.val (.tuple (encs l)), .val (.int (wy up)), s2, s3, s4]) (xs := l) (en := enc) (isPos up) (fun t => .int (od up t)) (by simp [itemsOf, encs_map]) (fun t ht => ?_) (len_small hc)
  · have e2 : (l.filter (isPos up)).map (fun t => PyData.int (od up t)) = (ords up l).map PyData.int := by
      unfold ords
      rw [List.map_map]
      rfl
    rw [e2] at e
    exact e
  · cases t with
    | sign s => exact ⟨_, by simp [item, wipeE, enc, idx0, isPos, isSp]; rfl, by simp [wipeE]⟩
    | kern n => exact ⟨_, by simp [item, wipeE, enc, idx0, isPos, isSp]; rfl, by simp [wipeE]⟩
    | place n => exact ⟨_, by simp [item, wipeE, enc, idx0, isPos, isSp]; rfl, by simp [wipeE]⟩
    | box k => exact ⟨_, by simp [item, wipeE, enc, idx0, isPos, isSp]; rfl, by simp [wipeE]⟩
    | space w a o b p =>
      by_cases h : 0 < am up (.space w a o b p)
      · exact ⟨_, by simp [item, wipeE, enc, idx0, idxw, idxo, isPos, isSp, h]; rfl, by simp [wipeE]⟩
      · exact ⟨_, by simp [item, wipeE, enc, idx0, idxw, idxo, isPos, isSp, h]; rfl, by simp [wipeE]⟩
theorem ru28 (N : Nat) (up : Bool) (q : Int) (l : List Th) (hc : cnts l ≤ 100) (s2 s4 : Sl) : (ev (callN P W N) f30_c0).1 [.val (.tuple (encs l)), .val (.int (wy up)), s2, .val (.int q), s4] = .ok (.f (.list ((l.map (ruT up q)).map PyData.int))) [.val (.tuple (encs l)), .val (.int (wy up)), s2, .val (.int q), s4] := by
  have e : (ev (callN P W N) f30_c0).1 [.val (.tuple (encs l)), .val (.int (wy up)), s2, .val (.int q), s4] = .ok (.f (.list (l.map fun t => .int (ruT up q t)))) [.val (.tuple (encs l)), .val (.int (wy up)), s2, .val (.int q), s4] := by
    refine e_map (xs := l) (en := enc) (fun t => .int (ruT up q t)) (by simp [itemsOf, encs_map]) (fun t ht => ?_) (len_small hc)
    cases t with
    | sign s => exact ⟨_, by simp [item, wipeE, enc, idx0, ruT, isSp]; rfl, by simp [wipeE]⟩
    | kern n => exact ⟨_, by simp [item, wipeE, enc, idx0, ruT, isSp]; rfl, by simp [wipeE]⟩
    | place n => exact ⟨_, by simp [item, wipeE, enc, idx0, ruT, isSp]; rfl, by simp [wipeE]⟩
    | box k => exact ⟨_, by simp [item, wipeE, enc, idx0, ruT, isSp]; rfl, by simp [wipeE]⟩
    | space w a o b p =>
      by_cases h : od up (.space w a o b p) = q
      · exact ⟨_, by simp [item, wipeE, enc, idx0, idxw, idxo, ruT, isSp, h]; rfl, by simp [wipeE]⟩
      · exact ⟨_, by simp [item, wipeE, enc, idx0, idxw, idxo, ruT, isSp, h]; rfl, by simp [wipeE]⟩
  rw [List.map_map]
  exact e
theorem filter_len {α : Type} (q : α → Bool) (l : List α) : (l.filter q).length ≤ l.length := List.length_filter_le _ _
/-- the law's rules -/
theorem rules_ok {N : Nat} (hN : 1 ≤ N) (up : Bool) (l : List Th) (hc : cnts l ≤ 100) : callN P W N 30 [.val (.tuple (encs l)), .val (.int (wy up))] = .ok true (.list ((ru up l).map PyData.int)) [] := by
  obtain ⟨M, rfl⟩ : ∃ M, N = M + 1 := ⟨N - 1, by omega⟩
  have hb : bop .add (.list ((ords up l).map PyData.int)) (.list [.int 0]) = some (.f (.list ((ords up l ++ [0]).map PyData.int))) := by
    rw [bop_lst, List.map_append]
    refine if_pos ?_
    have h1 : ((ords up l).map PyData.int).length ≤ l.length := by
      unfold ords
      rw [List.length_map, List.length_map]
      exact filter_len _ _
    have h2 := len_cnts l
    show _ + 1 ≤ 16777216
    omega
  have hm : b1 .max (.list ((ords up l).map PyData.int ++ [PyData.int 0])) = some (.d (.int (tp up l))) := by
    have := max_ints (ords up l ++ [0]) (by simp)
    rw [List.map_append] at this
    exact this
  have hr := ru28 M up (tp up l) l hc (.val (.list ((ords up l).map PyData.int))) .un
  rw [step (df := f30) rfl rfl]
  simp [f30, orders28 M up l hc, hb, hm, SZ]
  simp [hr]
  unfold ru
  rw [List.map_map]
/-! the program's amounts -/
theorem own11 {N : Nat} (hN : 1 ≤ N) (l : List Th) (hc : cnts l ≤ 100) : callN P W N 11 [.val (.tuple (encs l))] = .ok true (.list ((l.filter isSp).map enc)) [] := by
  obtain ⟨M, rfl⟩ : ∃ M, N = M + 1 := ⟨N - 1, by omega⟩
  have e : (ev (callN P W M) f11_c0).1 [.val (.tuple (encs l)), .un] = .ok (.f (.list ((l.filter isSp).map enc))) [.val (.tuple (encs l)), .un] := by
    refine e_filter (xs := l) (en := enc) isSp enc (by simp [itemsOf, encs_map]) (fun t ht => ?_) (len_small hc)
    cases t with
    | sign s => exact ⟨_, by simp [item, wipeE, enc, idx0, isSp]; rfl, by simp [wipeE]⟩
    | kern n => exact ⟨_, by simp [item, wipeE, enc, idx0, isSp]; rfl, by simp [wipeE]⟩
    | place n => exact ⟨_, by simp [item, wipeE, enc, idx0, isSp]; rfl, by simp [wipeE]⟩
    | box k => exact ⟨_, by simp [item, wipeE, enc, idx0, isSp]; rfl, by simp [wipeE]⟩
    | space w a o b p => exact ⟨_, by simp [item, wipeE, enc, idx0, isSp]; rfl, by simp [wipeE]⟩
  rw [step (df := f11) rfl rfl]
  simp [f11, e]
/-- the ruling order, if there is one -/
def rul (up : Bool) (l : List Th) : D := if ords up l = [] then .none else .int (topL (ords up l))
theorem ne_nil (l : List Int) : cop .ne (.list (l.map PyData.int)) (.list []) = some (decide (l ≠ [])) := by
  have hs : eqOk (.list (l.map PyData.int)) (.list []) = true := by
    have h1 : SeqAt.shaped (.list (l.map PyData.int)) = true := by
      induction l with
      | nil => rfl
      | cons i l ih => exact ih
    unfold eqOk
    rw [h1]
    rfl
  show (if eqOk _ _ = true then some (!PyData.eqv (.list (l.map PyData.int)) (.list [])) else none) = _
  rw [if_pos hs]
  cases l with
  | nil => rfl
  | cons i l => rfl
theorem rul12 {N : Nat} (hN : 2 ≤ N) (up : Bool) (l : List Th) (hc : cnts l ≤ 100) : callN P W N 12 [.val (.tuple (encs l)), .val (.int (wy up))] = .ok false (rul up l) [] := by
  obtain ⟨M, rfl⟩ : ∃ M, N = M + 1 := ⟨N - 1, by omega⟩
  have e11 := own11 (N := M) (by omega) l hc
  have e : (ev (callN P W M) f12_c0).1 [.val (.tuple (encs l)), .val (.int (wy up)), .un, .un] = .ok (.f (.list (((l.filter isSp).filter (isPos up)).map fun t => .int (od up t)))) [.val (.tuple (encs l)), .val (.int (wy up)), .un, .un] := by
    refine e_filter (xs := l.filter isSp) (en := enc) (isPos up) (fun t => .int (od up t)) (by simp [itemsOf, e11]) (fun t ht => ?_) (Nat.le_trans (filter_len _ _) (len_small hc))
    have hsp : isSp t = true := (List.mem_filter.mp ht).2
    cases t with
    | space w a o b p =>
      by_cases h : 0 < am up (.space w a o b p)
      · exact ⟨_, by simp [item, wipeE, enc, idx0, idxw, idxo, isPos, isSp, h]; rfl, by simp [wipeE]⟩
      · exact ⟨_, by simp [item, wipeE, enc, idx0, idxw, idxo, isPos, isSp, h]; rfl, by simp [wipeE]⟩
    | _ => simp [isSp] at hsp
  have e2 : ((l.filter isSp).filter (isPos up)).map (fun t => PyData.int (od up t)) = (ords up l).map PyData.int := by
    unfold ords
    rw [List.filter_filter, List.map_map]
    congr 1
    congr 1
    funext t
    unfold isPos
    cases isSp t <;> simp
  rw [e2] at e
  rw [step (df := f12) rfl rfl]
  by_cases h0 : ords up l = []
  · have hn : cop .ne (.list []) (.list []) = some false := ne_nil []
    simp [f12, e, SZ, rul, h0, hn]
  · have hn := ne_nil (ords up l)
    have hm := max_ints (ords up l) h0
    simp [f12, e, SZ, rul, h0, hn, hm]
end K63

set_option linter.all false
set_option maxRecDepth 100000
set_option maxHeartbeats 4000000
/-! The program's amounts and running sums. -/
namespace K63
open PySem Ev
theorem maxL_app : ∀ (l : List Int) (m x : Int), maxL m (l ++ [x]) = if maxL m l < x then x else maxL m l
  | [], m, x => rfl
  | y :: l, m, x => maxL_app l _ x
theorem maxL_ge : ∀ (l : List Int) (m : Int), m ≤ maxL m l
  | [], m => Int.le_refl m
  | y :: l, m => by
    show m ≤ maxL (if m < y then y else m) l
    refine Int.le_trans ?_ (maxL_ge l _)
    split <;> omega
theorem od_nn {up : Bool} {t : Th} {d : Nat} (h : wf t d) : 0 ≤ od up t ∧ 0 ≤ am up t ∧ am up t ≤ 7 ∧ od up t ≤ 2 := by
  cases t with
  | space w a o b p =>
    obtain ⟨_, ⟨h1, h2⟩, ⟨h3, h4⟩, ⟨h5, h6⟩, h7, h8⟩ := h
    cases up
    · exact ⟨h7, h5, h6, h8⟩
    · exact ⟨h3, h1, h2, h4⟩
  | _ => exact ⟨Int.le_refl _, Int.le_refl _, (by show (0 : Int) ≤ 7; decide), (by show (0 : Int) ≤ 2; decide)⟩
theorem ords_nn {up : Bool} {l : List Th} {d : Nat} (h : wfs l d) : ∀ x ∈ ords up l, 0 ≤ x := by
  intro x hx
  unfold ords at hx
  obtain ⟨t, ht, rfl⟩ := List.mem_map.mp hx
  exact (od_nn (wfs_le l d h t (List.mem_filter.mp ht).1)).1
theorem tp_eq {up : Bool} {l : List Th} {d : Nat} (h : wfs l d) (h0 : ords up l ≠ []) : tp up l = topL (ords up l) := by
  unfold tp
  have hn := ords_nn (up := up) h
  cases e : ords up l with
  | nil => exact absurd e h0
  | cons x r =>
    rw [e] at hn
    show maxL x (r ++ [0]) = maxL x r
    rw [maxL_app]
    have h1 := maxL_ge r x
    have h2 := hn x List.mem_cons_self
    rw [if_neg (by omega)]
theorem ru_zero {up : Bool} {l : List Th} {d : Nat} (h : wfs l d) (h0 : ords up l = []) : ∀ t ∈ l, isSp t = true → am up t = 0 := by
  intro t ht hs
  have hn := od_nn (up := up) (wfs_le l d h t ht)
  by_cases hp : 0 < am up t
  · have hm : t ∈ l.filter (isPos up) := List.mem_filter.mpr ⟨ht, by unfold isPos; simp [hs, hp]⟩
    have : od up t ∈ ords up l := List.mem_map.mpr ⟨t, hm, rfl⟩
    rw [h0] at this
    exact nomatch this
  · omega
theorem eq_none (i : Int) : cop .eq (.int i) .none = some false := rfl
theorem am13 {N : Nat} (hN : 3 ≤ N) (up : Bool) (l : List Th) {d : Nat} (hw : wfs l d) (hc : cnts l ≤ 100) : callN P W N 13 [.val (.tuple (encs l)), .val (.int (wy up))] = .ok true (.list ((ru up l).map PyData.int)) [] := by
  obtain ⟨M, rfl⟩ : ∃ M, N = M + 1 := ⟨N - 1, by omega⟩
  have e12 := rul12 (N := M) (by omega) up l hc
  have e : (ev (callN P W M) f13_c0).1 [.val (.tuple (encs l)), .val (.int (wy up)), .val (rul up l), .un] = .ok (.f (.list (l.map fun t => .int (ruT up (tp up l) t)))) [.val (.tuple (encs l)), .val (.int (wy up)), .val (rul up l), .un] := by
    refine e_map (xs := l) (en := enc) (fun t => .int (ruT up (tp up l) t)) (by simp [itemsOf, encs_map]) (fun t ht => ?_) (len_small hc)
    cases t with
    | sign s => exact ⟨_, by simp [item, wipeE, enc, idx0, ruT, isSp]; rfl, by simp [wipeE]⟩
    | kern n => exact ⟨_, by simp [item, wipeE, enc, idx0, ruT, isSp]; rfl, by simp [wipeE]⟩
    | place n => exact ⟨_, by simp [item, wipeE, enc, idx0, ruT, isSp]; rfl, by simp [wipeE]⟩
    | box k => exact ⟨_, by simp [item, wipeE, enc, idx0, ruT, isSp]; rfl, by simp [wipeE]⟩
    | space w a o b p =>
      by_cases h0 : ords up l = []
      · have hz := ru_zero hw h0 _ ht rfl
        have hr : ruT up (tp up l) (.space w a o b p) = 0 := by
          unfold ruT
          rw [hz]
          split <;> rfl
        have hrul : rul up l = .none := by
          unfold rul
          rw [if_pos h0]
        rw [hrul]
        exact ⟨_, by simp [item, wipeE, enc, idx0, idxw, idxo, hr, eq_none]; rfl, by simp [wipeE]⟩
      · have ht' := tp_eq hw h0
        have hrul : rul up l = .int (topL (ords up l)) := by
          unfold rul
          rw [if_neg h0]
        rw [hrul]
        by_cases h : od up (.space w a o b p) = topL (ords up l)
        · exact ⟨_, by simp [item, wipeE, enc, idx0, idxw, idxo, ruT, isSp, ht', h]; rfl, by simp [wipeE]⟩
        · exact ⟨_, by simp [item, wipeE, enc, idx0, idxw, idxo, ruT, isSp, ht', h]; rfl, by simp [wipeE]⟩
  rw [step (df := f13) rfl rfl]
  simp [f13, e12, e]
  unfold ru
  rw [List.map_map]
  rfl
/-! running sums -/
/-- a and the sums ahead -/
def runs : Int → List Int → List Int
  | a, [] => [a]
  | a, x :: l => a :: runs (a + x) l
theorem runs_last : ∀ (l : List Int) (a : Int), ∃ k, runs a l = k ++ [a + l.sum]
  | [], a => ⟨[], by simp [runs]⟩
  | x :: l, a => by
    obtain ⟨k, e⟩ := runs_last l (a + x)
    refine ⟨a :: k, ?_⟩
    show a :: runs (a + x) l = _
    rw [e, List.sum_cons, Int.add_assoc]
    rfl
theorem idx_last (l : List D) (x : D) : idx (.list (l ++ [x])) (.int (-1)) = some x := by
  have h : ¬ (0 : Int) ≤ -1 := by decide
  have h2 : -((l.length : Int) + 1) ≤ -1 := by omega
  have h3 : ((-1 : Int) + ((l.length : Int) + 1)).toNat = l.length := by omega
  simp [idx, atI, Ev.ixN, h2, h3]
theorem loop14 (N : Nat) (v : D) : ∀ (l : List Int) (k : List Int) (a : Int) (s : Sl), Free s → k.length + l.length ≤ 1000 →
    ∃ s', forL (fun x r2 => (asn (.n 2 false) (.d x) r2).bind fun _ r3 => evB (callN P W N) W f14_b0 r3) (l.map PyData.int) [.val v, .val (.list ((k ++ [a]).map PyData.int)), s] = .ok .nx [.val v, .val (.list ((k ++ runs a l).map PyData.int)), s']
  | [], k, a, s, hs, hl => ⟨s, rfl⟩
  | x :: l, k, a, s, hs, hl => by
    have hl' : k.length + (l.length + 1) ≤ 1000 := hl
    obtain ⟨s', e⟩ := loop14 N v l (k ++ [a]) (a + x) (.val (.int x)) (.inr ⟨_, rfl⟩) (by simp; omega)
    refine ⟨s', ?_⟩
    rw [List.map_cons, for_nx (r' := [.val v, .val (.list ((k ++ [a] ++ [a + x]).map PyData.int)), .val (.int x)]), e]
    · show _ = Res.ok Fl.nx [Sl.val v, Sl.val (.list ((k ++ (a :: runs (a + x) l)).map PyData.int)), s']
      rw [List.append_assoc]
      rfl
    · have h1 : idx (.list (k.map PyData.int ++ [PyData.int a])) (.int (-1)) = some (.int a) := idx_last _ _
      have h2 : k.length ≤ 16777214 := by omega
      simp [f14_b0, sto_free hs, h1, SZ, h2]
theorem sums14 {N : Nat} (hN : 1 ≤ N) (l : List Int) (hl : l.length ≤ 900) : callN P W N 14 [.val (.list (l.map PyData.int))] = .ok false (.list ((runs 0 l).map PyData.int)) [] := by
  obtain ⟨M, rfl⟩ : ∃ M, N = M + 1 := ⟨N - 1, by omega⟩
  obtain ⟨s', e⟩ := loop14 M (.list (l.map PyData.int)) l [] 0 .un (.inl rfl) (by simp; omega)
  have ef : evS (callN P W M) W f14_l0 [.val (.list (l.map PyData.int)), .val (.list [.int 0]), .un] = .ok .nx [.val (.list (l.map PyData.int)), .val (.list ((runs 0 l).map PyData.int)), s'] := by
    rw [show f14_l0 = IS.fr (.n 2 false) (.val (.var 0)) f14_b0 from rfl, s_for]
    have ei : evI (callN P W M) (.val (.var 0)) [.val (.list (l.map PyData.int)), .val (.list [.int 0]), .un] = .ok (l.map PyData.int) [.val (.list (l.map PyData.int)), .val (.list [.int 0]), .un] := by simp [itemsOf]
    rw [ei]
    exact e
  rw [step (df := f14) rfl rfl]
  simp [f14, ef, SZ]
end K63

set_option linter.all false
set_option maxRecDepth 100000
set_option maxHeartbeats 4000000
/-! The tops. -/
namespace K63
open PySem Ev
theorem runs_len : ∀ (l : List Int) (a : Int), (runs a l).length = l.length + 1
  | [], a => rfl
  | x :: l, a => by
    show (runs (a + x) l).length + 1 = l.length + 1 + 1
    rw [runs_len l]
theorem runs_idx (l : List Int) : idx (.list ((runs 0 l).map PyData.int)) (.int (-1)) = some (.int l.sum) := by
  obtain ⟨k, e⟩ := runs_last l 0
  rw [e, List.map_append, Int.zero_add]
  exact idx_last _ _
theorem zip_ints : ∀ (l k : List Int), zipD (l.map PyData.int) (k.map PyData.int) = (l.zip k).map fun p => .tuple [.int p.1, .int p.2]
  | [], _ => rfl
  | _ :: _, [] => rfl
  | a :: l, b :: k => by
    show PyData.tuple [.int a, .int b] :: zipD (l.map PyData.int) (k.map PyData.int) = _
    rw [zip_ints l k]
    rfl
def mixT (ex S : Int) (p : Int × Int) : Int := p.1 + ex * p.2 / S
theorem comp15 (N : Nat) (A R : List Int) (ex S : Int) (v w c : D) (hS : R = [] ∨ ∃ k, R = runs 0 k ∧ k.sum = S) (h0 : 0 < S) (h1 : S < 1073741824) (he : -18446744073709551616 < ex ∧ ex < 18446744073709551616) (hl : A.length ≤ 1000) :
    (ev (callN P W N) f15_c0).1 [.val v, .val w, .val (.list (A.map PyData.int)), .val (.int ex), .val c, .val (.list (R.map PyData.int)), .un, .un, .un] = .ok (.f (.list (((A.zip R).map (mixT ex S)).map PyData.int))) [.val v, .val w, .val (.list (A.map PyData.int)), .val (.int ex), .val c, .val (.list (R.map PyData.int)), .un, .un, .un] := by
  have e : (ev (callN P W N) f15_c0).1 [.val v, .val w, .val (.list (A.map PyData.int)), .val (.int ex), .val c, .val (.list (R.map PyData.int)), .un, .un, .un] = .ok (.f (.list ((A.zip R).map fun p => .int (mixT ex S p)))) [.val v, .val w, .val (.list (A.map PyData.int)), .val (.int ex), .val c, .val (.list (R.map PyData.int)), .un, .un, .un] := by
    refine e_map (xs := A.zip R) (en := fun p => .tuple [.int p.1, .int p.2]) (fun p => .int (mixT ex S p)) (by simp [Ev.listOf, zip_ints]) (fun p hp => ?_) ?_
    · have hm : mulOk ex p.2 = true := mulOk_l he.1 he.2
      have hr : idx (.list (R.map PyData.int)) (.int (-1)) = some (.int S) := by
        rcases hS with rfl | ⟨k, rfl, rfl⟩
        · simp at hp
        · exact runs_idx k
      exact ⟨_, by simp [item, wipeE, hr, hm, h0, h1, mixT]; rfl, by simp [wipeE]⟩
    · rw [List.length_zip]
      show _ ≤ 16777216
      omega
  rw [List.map_map]
  exact e
theorem wides15 {N d : Nat} (hN : 2 * d + 1 ≤ N) (l : List Th) (hw : wfs l d) (hc : cnts l ≤ 100) (w : D) : (ev (callN P W N) f15_c1).1 [.val (.tuple (encs l)), .val w, .un, .un, .un, .un, .un, .un, .un] = .ok (.f (.list ((l.map wd).map PyData.int))) [.val (.tuple (encs l)), .val w, .un, .un, .un, .un, .un, .un, .un] := by
  have h := (wide_all d).1 N hN
  have e : (ev (callN P W N) f15_c1).1 [.val (.tuple (encs l)), .val w, .un, .un, .un, .un, .un, .un, .un] = .ok (.f (.list (l.map fun t => .int (wd t)))) [.val (.tuple (encs l)), .val w, .un, .un, .un, .un, .un, .un, .un] := by
    refine e_map (xs := l) (en := enc) (fun t => .int (wd t)) (by simp [itemsOf, encs_map]) (fun t ht => ?_) (len_small hc)
    have e1 := h t (wfs_le l d hw t ht) (Nat.le_trans (cnt_le ht) hc)
    exact ⟨_, by simp [item, wipeE, e1]; rfl, by simp [wipeE]⟩
  rw [List.map_map]
  exact e
/-- what tops_of finds -/
def topsM (l : List Th) (w : Int) : Bool × D :=
  let ex := w - wds l
  let up := decide (0 < ex)
  let S := (ru up l).sum
  if ex = 0 then (false, .list ((runs 0 (l.map wd)).map PyData.int))
  else if 0 < ex ∧ S = 0 then (false, .str "loose")
  else if ex < 0 ∧ (S = 0 ∨ ((ords up l ≠ [] ∧ topL (ords up l) = 0) ∧ S < -ex)) then (false, .str "tight")
  else (true, .list ((((runs 0 (l.map wd)).zip (runs 0 (ru up l))).map (mixT ex S)).map PyData.int))
theorem rul_cases (up : Bool) (l : List Th) : rul up l = .none ∨ ∃ q, rul up l = .int q := by
  unfold rul
  split
  · exact .inl rfl
  · exact .inr ⟨_, rfl⟩
theorem sum_nn : ∀ {l : List Int}, (∀ x ∈ l, 0 ≤ x ∧ x ≤ 7) → 0 ≤ l.sum ∧ l.sum ≤ 7 * l.length
  | [], _ => by simp
  | x :: l, h => by
    have h1 := h x List.mem_cons_self
    have h2 := sum_nn fun y hy => h y (List.mem_cons_of_mem _ hy)
    rw [List.sum_cons, List.length_cons]
    omega
theorem ru_nn {up : Bool} {l : List Th} {d : Nat} (h : wfs l d) : ∀ x ∈ ru up l, 0 ≤ x ∧ x ≤ 7 := by
  intro x hx
  obtain ⟨t, ht, rfl⟩ := List.mem_map.mp hx
  have hn := od_nn (up := up) (wfs_le l d h t ht)
  unfold ruT
  split
  · exact ⟨hn.2.1, hn.2.2.1⟩
  · exact ⟨Int.le_refl _, by decide⟩
theorem ru_sum {up : Bool} {l : List Th} {d : Nat} (h : wfs l d) (hc : cnts l ≤ 100) : 0 ≤ (ru up l).sum ∧ (ru up l).sum ≤ 700 := by
  have h1 := sum_nn (ru_nn (up := up) h)
  have h2 := len_cnts l
  have h3 : (ru up l).length = l.length := by
    unfold ru
    rw [List.length_map]
  omega
theorem tops15 {N d : Nat} (hN : 2 * d + 5 ≤ N) (l : List Th) (hw : wfs l d) (hc : cnts l ≤ 100) (w : Int) (hb : -1000000000000 < w - wds l ∧ w - wds l < 1000000000000) : callN P W N 15 [.val (.tuple (encs l)), .val (.int w)] = .ok (topsM l w).1 (topsM l w).2 [] := by
  obtain ⟨M, rfl⟩ : ∃ M, N = M + 1 := ⟨N - 1, by omega⟩
  have hlen := len_cnts l
  have e1 := wides15 (N := M) (d := d) (by omega) l hw hc (.int w)
  have e2 := sums14 (N := M) (by omega) (l.map wd) (by rw [List.length_map]; omega)
  have e3 := runs_idx (l.map wd)
  rw [wds_sum] at e3
  obtain ⟨ws, hws⟩ : ∃ ws, ws = l.map wd := ⟨_, rfl⟩
  have htm : topsM l w = topsM l w := rfl
  unfold topsM at htm ⊢
  rw [← hws] at e1 e2 e3 ⊢
  rw [step (df := f15) rfl rfl]
  by_cases h0 : w - wds l = 0
  · simp [f15, e1, e2, e3, h0]
  · have hw1 : ws.length ≤ 100 := by rw [hws, List.length_map]; omega
    have hrl : ∀ up, (ru up l).length ≤ 100 := fun up => by
      unfold ru
      rw [List.length_map]
      omega
    clear htm
    obtain ⟨ex, hex⟩ : ∃ ex, ex = w - wds l := ⟨_, rfl⟩
    rw [← hex] at h0 hb ⊢
    by_cases hp : 0 < ex
    · have e4 : callN P W M 13 [.val (.tuple (encs l)), .val (.int 2)] = .ok true (.list ((ru true l).map PyData.int)) [] := am13 (N := M) (by omega) true l hw hc
      have e5 := sums14 (N := M) (by omega) (ru true l) (Nat.le_trans (hrl true) (by decide))
      have e6 := runs_idx (ru true l)
      have hs := ru_sum (up := true) hw hc
      have hnl : ¬ ex < 0 := by omega
      by_cases hS : (ru true l).sum = 0
      · simp [f15, e1, e2, e3, ← hex, h0, hp, e4, e5, e6, hS]
      · have ec := comp15 M (runs 0 ws) (runs 0 (ru true l)) ex (ru true l).sum (.tuple (encs l)) (.int w) (.int 2) (.inr ⟨_, rfl, rfl⟩) (by omega) (by omega) (by omega) (by rw [runs_len]; omega)
        simp [f15, e1, e2, e3, ← hex, h0, hp, hnl, e4, e5, e6, hS]
        simp [ec]
    · have hn : ex < 0 := by omega
      have e4 : callN P W M 13 [.val (.tuple (encs l)), .val (.int 4)] = .ok true (.list ((ru false l).map PyData.int)) [] := am13 (N := M) (by omega) false l hw hc
      have e5 := sums14 (N := M) (by omega) (ru false l) (Nat.le_trans (hrl false) (by decide))
      have e6 := runs_idx (ru false l)
      have e7 : callN P W M 12 [.val (.tuple (encs l)), .val (.int 4)] = .ok false (rul false l) [] := rul12 (N := M) (by omega) false l hc
      have hs := ru_sum (up := false) hw hc
      by_cases hS : (ru false l).sum = 0
      · simp [f15, e1, e2, e3, ← hex, h0, hp, hn, e4, e5, e6, hS]
      · have ec := comp15 M (runs 0 ws) (runs 0 (ru false l)) ex (ru false l).sum (.tuple (encs l)) (.int w) (.int 4) (.inr ⟨_, rfl, rfl⟩) (by omega) (by omega) (by omega) (by rw [runs_len]; omega)
        have hz : cop .eq (rul false l) (.int 0) = some (decide (ords false l ≠ [] ∧ topL (ords false l) = 0)) := by
          unfold rul
          by_cases hr : ords false l = []
          · rw [if_pos hr]
            simp [hr]
            rfl
          · rw [if_neg hr]
            simp [hr]
        by_cases hT : (ords false l ≠ [] ∧ topL (ords false l) = 0)
        · have hz' : cop .eq (rul false l) (.int 0) = some true := by rw [hz]; simp [hT.1, hT.2]
          by_cases hq : (ru false l).sum < -ex
          · simp [f15, e1, e2, e3, ← hex, h0, hp, hn, e4, e5, e6, hS, e7, hz', hq, hT.1, hT.2]
          · simp [f15, e1, e2, e3, ← hex, h0, hp, hn, e4, e5, e6, hS, e7, hz', hq]
            simp [ec]
        · have hz' : cop .eq (rul false l) (.int 0) = some false := by rw [hz]; simpa using hT
          have hT' : ¬((¬ords false l = [] ∧ topL (ords false l) = 0) ∧ (ru false l).sum < -ex) := fun z => hT z.1
          simp [f15, e1, e2, e3, ← hex, h0, hp, hn, e4, e5, e6, hS, e7, hz']
          rw [if_neg (by simpa using hT')]
          simp [ec]
end K63

set_option linter.all false
set_option maxRecDepth 100000
set_option maxHeartbeats 4000000
/-! Leaves. -/
namespace K63
open PySem Ev
mutual
def lv : Th → Int → List Int
  | .box l, a => lvs l a
  | .sign _, a => [a]
  | .kern _, a => [a]
  | .place _, a => [a]
  | .space _ _ _ _ _, a => [a]
def lvs : List Th → Int → List Int
  | [], _ => []
  | t :: l, a => lv t a ++ lvs l (a + wd t)
end
def lz : List Th → List Int → List Int
  | t :: l, a :: as => lv t a ++ lz l as
  | _, _ => []
mutual
theorem lv_len : ∀ (t : Th) (a : Int), (lv t a).length ≤ cnt t
  | .box l, a => by
    have := lvs_len l a
    show (lvs l a).length ≤ cnts l + 1
    omega
  | .sign _, a => Nat.le_refl _
  | .kern _, a => Nat.le_refl _
  | .place _, a => Nat.le_refl _
  | .space _ _ _ _ _, a => Nat.le_refl _
theorem lvs_len : ∀ (l : List Th) (a : Int), (lvs l a).length ≤ cnts l
  | [], a => Nat.le_refl _
  | t :: l, a => by
    have h1 := lv_len t a
    have h2 := lvs_len l (a + wd t)
    show (lv t a ++ lvs l (a + wd t)).length ≤ cnt t + cnts l
    rw [List.length_append]
    omega
end
theorem lz_len : ∀ (l : List Th) (as : List Int), (lz l as).length ≤ cnts l
  | [], as => by cases as <;> exact Nat.zero_le _
  | t :: l, [] => Nat.zero_le _
  | t :: l, a :: as => by
    have h1 := lv_len t a
    have h2 := lz_len l as
    show (lv t a ++ lz l as).length ≤ cnt t + cnts l
    rw [List.length_append]
    omega
theorem lz_runs : ∀ (l : List Th) (a b : Int), lz l ((runs b (l.map wd)).map (a + ·)) = lvs l (a + b)
  | [], a, b => rfl
  | t :: l, a, b => by
    show lv t (a + b) ++ lz l ((runs (b + wd t) (l.map wd)).map (a + ·)) = lv t (a + b) ++ lvs l (a + b + wd t)
    rw [lz_runs l a (b + wd t), Int.add_assoc]
def Leaves (N d : Nat) : Prop := ∀ (l : List Th) (as : List Int), wfs l d → cnts l ≤ 100 → callN P W N 16 [.val (.tuple (encs l)), .val (.list (as.map PyData.int))] = .ok false (.tuple ((lz l as).map PyData.int)) []
theorem c16a {N d : Nat} (hN : 2 * d + 1 ≤ N) (k : List Th) (hw : wfs k d) (hc : cnts k ≤ 100) (x y f z : D) (s : Sl) : (ev (callN P W N) f16_c1).1 [.val x, .val y, .val f, .val (.tuple [.str "box", .tuple (encs k)]), .val z, s, .un, .un] = .ok (.f (.list ((k.map wd).map PyData.int))) [.val x, .val y, .val f, .val (.tuple [.str "box", .tuple (encs k)]), .val z, s, .un, .un] := by
  have h := (wide_all d).1 N hN
  have e : (ev (callN P W N) f16_c1).1 [.val x, .val y, .val f, .val (.tuple [.str "box", .tuple (encs k)]), .val z, s, .un, .un] = .ok (.f (.list (k.map fun t => .int (wd t)))) [.val x, .val y, .val f, .val (.tuple [.str "box", .tuple (encs k)]), .val z, s, .un, .un] := by
    refine e_map (xs := k) (en := enc) (fun t => .int (wd t)) (by simp [itemsOf, idx1, encs_map]) (fun t ht => ?_) (len_small hc)
    have e1 := h t (wfs_le k d hw t ht) (Nat.le_trans (cnt_le ht) hc)
    exact ⟨_, by simp [item, wipeE, e1]; rfl, by simp [wipeE]⟩
  rw [List.map_map]
  exact e
theorem c16b (N : Nat) (A : List Int) (hl : A.length ≤ 1000) (x y f z : D) (a : Int) : (ev (callN P W N) f16_c0).1 [.val x, .val y, .val f, .val z, .val (.int a), .val (.list (A.map PyData.int)), .un, .un] = .ok (.f (.list ((A.map (a + ·)).map PyData.int))) [.val x, .val y, .val f, .val z, .val (.int a), .val (.list (A.map PyData.int)), .un, .un] := by
  have e : (ev (callN P W N) f16_c0).1 [.val x, .val y, .val f, .val z, .val (.int a), .val (.list (A.map PyData.int)), .un, .un] = .ok (.f (.list (A.map fun i => .int (a + i)))) [.val x, .val y, .val f, .val z, .val (.int a), .val (.list (A.map PyData.int)), .un, .un] := by
    refine e_map (xs := A) (en := PyData.int) (fun i => .int (a + i)) (by simp [itemsOf]) (fun i hi => ?_) (by show _ ≤ 16777216; omega)
    exact ⟨_, by simp [item, wipeE]; rfl, by simp [wipeE]⟩
  rw [List.map_map]
  exact e
theorem loop16 {N d : Nat} (hN : 2 * d + 5 ≤ N) (ih : ∀ d', d = d' + 1 → Leaves N d') (x y : D) : ∀ (l : List Th) (as : List Int) (f : List Int) (s3 s4 s5 : Sl), Free s3 → Free s4 → Free s5 → wfs l d → cnts l ≤ 100 → f.length + cnts l ≤ 1000 →
    ∃ t3 t4 t5, forL (fun x r2 => (asn (.t [.n 3 false, .n 4 false]) (.d x) r2).bind fun _ r3 => evB (callN P W N) W f16_b0 r3) (zipD (encs l) (as.map PyData.int)) [.val x, .val y, .val (.tuple (f.map PyData.int)), s3, s4, s5, .un, .un] = .ok .nx [.val x, .val y, .val (.tuple ((f ++ lz l as).map PyData.int)), t3, t4, t5, .un, .un]
  | [], as, f, s3, s4, s5, h3, h4, h5, hw, hc, hl => ⟨s3, s4, s5, by
      have : lz [] as = [] := by cases as <;> rfl
      rw [this, List.append_nil]
      rfl⟩
  | t :: l, [], f, s3, s4, s5, h3, h4, h5, hw, hc, hl => ⟨s3, s4, s5, by
      show forL _ [] _ = _
      rw [for_end]
      show _ = Res.ok Fl.nx [Sl.val x, .val y, .val (.tuple ((f ++ []).map PyData.int)), s3, s4, s5, .un, .un]
      rw [List.append_nil]⟩
  | t :: l, a :: as, f, s3, s4, s5, h3, h4, h5, hw, hc, hl => by
    have hc' : cnt t + cnts l ≤ 100 := hc
    have hl' : f.length + (cnt t + cnts l) ≤ 1000 := hl
    have hv := lv_len t a
    have hb : ∀ v : List Int, v.length ≤ 100 → bop .add (.tuple (f.map PyData.int)) (.tuple (v.map PyData.int)) = some (.d (.tuple ((f ++ v).map PyData.int))) := fun v hv => by
      rw [bop_tup, List.map_append]
      refine if_pos ?_
      rw [List.length_map, List.length_map]
      show _ ≤ 16777216
      omega
    have fin : ∀ u5 : Sl, Free u5 → ((asn (.t [.n 3 false, .n 4 false]) (.d (.tuple [enc t, .int a])) [.val x, .val y, .val (.tuple (f.map PyData.int)), s3, s4, s5, .un, .un]).bind fun _ r3 => evB (callN P W N) W f16_b0 r3) = .ok .nx [.val x, .val y, .val (.tuple ((f ++ lv t a).map PyData.int)), .val (enc t), .val (.int a), u5, .un, .un] →
        ∃ t3 t4 t5, forL (fun x r2 => (asn (.t [.n 3 false, .n 4 false]) (.d x) r2).bind fun _ r3 => evB (callN P W N) W f16_b0 r3) (zipD (encs (t :: l)) ((a :: as).map PyData.int)) [.val x, .val y, .val (.tuple (f.map PyData.int)), s3, s4, s5, .un, .un] = .ok .nx [.val x, .val y, .val (.tuple ((f ++ lz (t :: l) (a :: as)).map PyData.int)), t3, t4, t5, .un, .un] := fun u5 hu e => by
      obtain ⟨t3, t4, t5, e2⟩ := loop16 hN ih x y l as (f ++ lv t a) (.val (enc t)) (.val (.int a)) u5 (.inr ⟨_, rfl⟩) (.inr ⟨_, rfl⟩) hu hw.2 (by omega) (by rw [List.length_append]; omega)
      refine ⟨t3, t4, t5, ?_⟩
      show forL _ (PyData.tuple [enc t, .int a] :: zipD (encs l) (as.map PyData.int)) _ = _
      rw [for_nx e, e2]
      show _ = Res.ok Fl.nx [Sl.val x, .val y, .val (.tuple ((f ++ (lv t a ++ lz l as)).map PyData.int)), t3, t4, t5, .un, .un]
      rw [List.append_assoc]
    have w1 := hw.1
    have hb1 : bop .add (.tuple (f.map PyData.int)) (.tuple [.int a]) = some (.d (.tuple ((f ++ [a]).map PyData.int))) := hb [a] (by simp)
    cases t with
    | sign q => exact fin s5 h5 (by simp [f16_b0, sto_free h3, sto_free h4, enc, idx0, SZ, hb1, lv])
    | kern q => exact fin s5 h5 (by simp [f16_b0, sto_free h3, sto_free h4, enc, idx0, SZ, hb1, lv])
    | place q => exact fin s5 h5 (by simp [f16_b0, sto_free h3, sto_free h4, enc, idx0, SZ, hb1, lv])
    | space w a' o b p => exact fin s5 h5 (by simp [f16_b0, sto_free h3, sto_free h4, enc, idx0, SZ, hb1, lv])
    | box k =>
      obtain ⟨g1, g2⟩ := w1
      have hk : cnts k + 1 + cnts l ≤ 100 := hc'
      have hkl := len_cnts k
      obtain ⟨ws, hws⟩ : ∃ ws, ws = k.map wd := ⟨_, rfl⟩
      have hwl : ws.length ≤ 100 := by rw [hws, List.length_map]; omega
      have e1 := c16a (N := N) (d := d - 1) (by omega) k g2 (by omega) x y (.tuple (f.map PyData.int)) (.int a) s5
      have e2 := sums14 (N := N) (by omega) ws (by omega)
      have e3 := c16b N (runs 0 ws) (by rw [runs_len]; omega) x y (.tuple (f.map PyData.int)) (.tuple [.str "box", .tuple (encs k)]) a
      have e4 := ih (d - 1) (by omega) k ((runs 0 ws).map (a + ·)) g2 (by omega)
      rw [hws, lz_runs, Int.add_zero, ← hws] at e4
      rw [← hws] at e1
      have hlk := lvs_len k a
      have e5 := hb (lvs k a) (by omega)
      obtain ⟨A, hA⟩ : ∃ A, A = (runs 0 ws).map (a + ·) := ⟨_, rfl⟩
      rw [← hA] at e3 e4
      exact fin (.val (.list ((runs 0 ws).map PyData.int))) (.inr ⟨_, rfl⟩) (by simp [f16_b0, sto_free h3, sto_free h4, sto_free h5, enc, idx0, idx1, SZ, e1, e2, e3, e4, e5, lv])
theorem leaves16 : ∀ (d N : Nat), 3 * d + 6 ≤ N → Leaves N d
  | d, N, hN, l, as, hw, hc => by
    obtain ⟨M, rfl⟩ : ∃ M, N = M + 1 := ⟨N - 1, by omega⟩
    obtain ⟨t3, t4, t5, e⟩ := loop16 (N := M) (d := d) (by omega) (fun d' hd => by subst hd; exact leaves16 d' M (by omega)) (.tuple (encs l)) (.list (as.map PyData.int)) l as [] .un .un .un (.inl rfl) (.inl rfl) (.inl rfl) hw hc (by simp; omega)
    have ef : evS (callN P W M) W f16_l0 [.val (.tuple (encs l)), .val (.list (as.map PyData.int)), .val (.tuple []), .un, .un, .un, .un, .un] = .ok .nx [.val (.tuple (encs l)), .val (.list (as.map PyData.int)), .val (.tuple ((lz l as).map PyData.int)), t3, t4, t5, .un, .un] := by
      rw [show f16_l0 = IS.fr (.t [.n 3 false, .n 4 false]) (.zip (.var 0) (.var 1)) f16_b0 from rfl, s_for]
      have ei : evI (callN P W M) (.zip (.var 0) (.var 1)) [.val (.tuple (encs l)), .val (.list (as.map PyData.int)), .val (.tuple []), .un, .un, .un, .un, .un] = .ok (zipD (encs l) (as.map PyData.int)) [.val (.tuple (encs l)), .val (.list (as.map PyData.int)), .val (.tuple []), .un, .un, .un, .un, .un] := by simp [Ev.listOf]
      rw [ei]
      exact e
    rw [step (df := f16) rfl rfl]
    simp [f16, ef, SZ]
end K63

set_option linter.all false
set_option maxRecDepth 100000
set_option maxHeartbeats 4000000
/-! The law's leaves of a box. -/
namespace K63
open PySem Ev
def Inner (N d : Nat) : Prop := ∀ (l : List Th) (a : Int), wfs l d → cnts l ≤ 100 → callN P W N 33 [.val (.tuple (encs l)), .val (.int a)] = .ok false (.tuple ((lvs l a).map PyData.int)) []
theorem one_wide {N d : Nat} (hN : d + 1 ≤ N) {t : Th} (hw : wf t d) (hc : cnt t ≤ 100) : callN P W N 29 [.val (.tuple [enc t])] = .ok false (.int (wd t)) [] := by
  have h := law_wide d N hN [t] ⟨hw, trivial⟩ (by show cnt t + 0 ≤ 100; omega)
  have e : wds [t] = wd t := by
    show wd t + 0 = wd t
    omega
  rw [e] at h
  exact h
theorem loop31 {N d : Nat} (hN : d + 1 ≤ N) (ih : ∀ d', d = d' + 1 → Inner N d') (x : D) : ∀ (l : List Th) (a : Int) (f : List Int) (s3 : Sl), Free s3 → wfs l d → cnts l ≤ 100 → f.length + cnts l ≤ 1000 →
    ∃ b t3, forL (fun x r2 => (asn (.n 3 false) (.d x) r2).bind fun _ r3 => evB (callN P W N) W f33_b0 r3) (encs l) [.val x, .val (.int a), .val (.tuple (f.map PyData.int)), s3] = .ok .nx [.val x, .val (.int b), .val (.tuple ((f ++ lvs l a).map PyData.int)), t3]
  | [], a, f, s3, h3, hw, hc, hl => ⟨a, s3, by
      show _ = Res.ok Fl.nx [Sl.val x, .val (.int a), .val (.tuple ((f ++ []).map PyData.int)), s3]
      rw [List.append_nil]
      rfl⟩
  | t :: l, a, f, s3, h3, hw, hc, hl => by
    have hc' : cnt t + cnts l ≤ 100 := hc
    have hl' : f.length + (cnt t + cnts l) ≤ 1000 := hl
    have hv := lv_len t a
    have hb : ∀ v : List Int, v.length ≤ 100 → bop .add (.tuple (f.map PyData.int)) (.tuple (v.map PyData.int)) = some (.d (.tuple ((f ++ v).map PyData.int))) := fun v hv => by
      rw [bop_tup, List.map_append]
      refine if_pos ?_
      rw [List.length_map, List.length_map]
      show _ ≤ 16777216
      omega
    have e27 := one_wide hN hw.1 (by omega)
    have fin : ((asn (.n 3 false) (.d (enc t)) [.val x, .val (.int a), .val (.tuple (f.map PyData.int)), s3]).bind fun _ r3 => evB (callN P W N) W f33_b0 r3) = .ok .nx [.val x, .val (.int (a + wd t)), .val (.tuple ((f ++ lv t a).map PyData.int)), .val (enc t)] →
        ∃ b t3, forL (fun x r2 => (asn (.n 3 false) (.d x) r2).bind fun _ r3 => evB (callN P W N) W f33_b0 r3) (encs (t :: l)) [.val x, .val (.int a), .val (.tuple (f.map PyData.int)), s3] = .ok .nx [.val x, .val (.int b), .val (.tuple ((f ++ lvs (t :: l) a).map PyData.int)), t3] := fun e => by
      obtain ⟨b, t3, e2⟩ := loop31 hN ih x l (a + wd t) (f ++ lv t a) (.val (enc t)) (.inr ⟨_, rfl⟩) hw.2 (by omega) (by rw [List.length_append]; omega)
      refine ⟨b, t3, ?_⟩
      show forL _ (enc t :: encs l) _ = _
      rw [for_nx e, e2]
      show _ = Res.ok Fl.nx [Sl.val x, .val (.int b), .val (.tuple ((f ++ (lv t a ++ lvs l (a + wd t))).map PyData.int)), t3]
      rw [List.append_assoc]
    have w1 := hw.1
    have hb1 : bop .add (.tuple (f.map PyData.int)) (.tuple [.int a]) = some (.d (.tuple ((f ++ [a]).map PyData.int))) := hb [a] (by simp)
    cases t with
    | sign q => exact fin (by simp [enc] at e27; simp [f33_b0, sto_free h3, enc, idx0, SZ, hb1, lv, e27])
    | kern q => exact fin (by simp [enc] at e27; simp [f33_b0, sto_free h3, enc, idx0, SZ, hb1, lv, e27])
    | place q => exact fin (by simp [enc] at e27; simp [f33_b0, sto_free h3, enc, idx0, SZ, hb1, lv, e27])
    | space w a' o b p => exact fin (by simp [enc] at e27; simp [f33_b0, sto_free h3, enc, idx0, SZ, hb1, lv, e27])
    | box k =>
      obtain ⟨g1, g2⟩ := w1
      have hk : cnts k + 1 + cnts l ≤ 100 := hc'
      have e4 := ih (d - 1) (by omega) k a g2 (by omega)
      have hlk := lvs_len k a
      have e5 := hb (lvs k a) (by omega)
      exact fin (by simp [enc] at e27; simp [f33_b0, sto_free h3, enc, idx0, idx1, SZ, e4, e5, lv, e27])
theorem inner31 : ∀ (d N : Nat), d + 2 ≤ N → Inner N d
  | d, N, hN, l, a, hw, hc => by
    obtain ⟨M, rfl⟩ : ∃ M, N = M + 1 := ⟨N - 1, by omega⟩
    obtain ⟨b, t3, e⟩ := loop31 (N := M) (d := d) (by omega) (fun d' hd => by subst hd; exact inner31 d' M (by omega)) (.tuple (encs l)) l a [] .un (.inl rfl) hw hc (by simp; omega)
    have ef : evS (callN P W M) W f33_l0 [.val (.tuple (encs l)), .val (.int a), .val (.tuple []), .un] = .ok .nx [.val (.tuple (encs l)), .val (.int b), .val (.tuple ((lvs l a).map PyData.int)), t3] := by
      rw [show f33_l0 = IS.fr (.n 3 false) (.val (.var 0)) f33_b0 from rfl, s_for]
      have ei : evI (callN P W M) (.val (.var 0)) [.val (.tuple (encs l)), .val (.int a), .val (.tuple []), .un] = .ok (encs l) [.val (.tuple (encs l)), .val (.int a), .val (.tuple []), .un] := by simp [itemsOf]
      rw [ei]
      exact e
    rw [step (df := f33) rfl rfl]
    simp [f33, ef, SZ]
end K63

set_option linter.all false
set_option maxRecDepth 100000
set_option maxHeartbeats 4000000
/-! The law's tops. -/
namespace K63
open PySem Ev
theorem encs_take : ∀ (l : List Th) (n : Nat), (encs l).take n = encs (l.take n) := fun l n => by
  rw [encs_map, encs_map, List.map_take]
theorem cnts_take : ∀ (l : List Th) (n : Nat), cnts (l.take n) ≤ cnts l
  | [], n => by simp [cnts]
  | t :: l, 0 => Nat.zero_le _
  | t :: l, n + 1 => by
    have := cnts_take l n
    show cnt t + cnts (l.take n) ≤ cnt t + cnts l
    omega
theorem wfs_take : ∀ (l : List Th) (n d : Nat), wfs l d → wfs (l.take n) d
  | [], n, d, h => by simp [wfs]
  | t :: l, 0, d, h => trivial
  | t :: l, n + 1, d, h => ⟨h.1, wfs_take l n d h.2⟩
theorem sum_ints (l : List Int) : b1 .sum (.list (l.map PyData.int)) = some (.d (.int l.sum)) := by
  have e := ints_map (fun i : Int => i) l
  rw [List.map_id'] at e
  show (intsL (l.map PyData.int)).map _ = _
  rw [show List.map PyData.int l = List.map (fun a => PyData.int a) l from rfl, e]
  rfl
theorem b1_int (i : Int) : b1 .int (.int i) = some (.d (.int i)) := rfl
theorem b2_max (i j : Int) : b2 .max (.int i) (.int j) = some (.int (if j > i then j else i)) := rfl
def upOf (ex : Int) : Bool := decide (0 < ex)
/-- where a thing stands -/
def topAt (l : List Th) (w : Int) (n : Nat) : Int :=
  wds (l.take n) + (w - wds l) * ((ru (upOf (w - wds l)) l).take n).sum / (if (ru (upOf (w - wds l)) l).sum > 1 then (ru (upOf (w - wds l)) l).sum else 1)
theorem sum_take_nn : ∀ {l : List Int} (n : Nat), (∀ x ∈ l, 0 ≤ x ∧ x ≤ 7) → 0 ≤ (l.take n).sum ∧ (l.take n).sum ≤ l.sum
  | [], n, _ => by simp
  | x :: l, 0, h => by
    have := (sum_nn h).1
    simp at this ⊢
    exact this
  | x :: l, n + 1, h => by
    have h1 := h x List.mem_cons_self
    have h2 := sum_take_nn n fun y hy => h y (List.mem_cons_of_mem _ hy)
    rw [List.take_succ_cons, List.sum_cons, List.sum_cons]
    omega
theorem sub_mod_div (a b : Int) (hb : 0 < b) : (a - a % b) / b = a / b := by
  have h : a - a % b = b * (a / b) := by
    have := Int.emod_add_mul_ediv a b
    omega
  rw [h, Int.mul_ediv_cancel_left _ (by omega)]
theorem top30 {N d : Nat} (hN : d + 3 ≤ N) (l : List Th) (hw : wfs l d) (hc : cnts l ≤ 100) (w : Int) (hb : -1000000000000 < w - wds l ∧ w - wds l < 1000000000000) (n : Nat) (hn : n ≤ l.length) : callN P W N 32 [.val (.tuple (encs l)), .val (.int w), .val (.int n)] = .ok false (.int (topAt l w n)) [] := by
  obtain ⟨M, rfl⟩ : ∃ M, N = M + 1 := ⟨N - 1, by omega⟩
  have e1 := law_wide d M (by omega) l hw hc
  have e2 := law_wide d M (by omega) (l.take n) (wfs_take l n d hw) (Nat.le_trans (cnts_take l n) hc)
  rw [← encs_take] at e2
  have c1 : cut (encs l) none (some (n : Int)) = (encs l).take n := cut_take _ _ (by rw [encs_len]; exact hn)
  unfold topAt
  obtain ⟨ex, hex⟩ : ∃ ex, ex = w - wds l := ⟨_, rfl⟩
  rw [← hex] at hb ⊢
  obtain ⟨up, hup⟩ : ∃ up, up = upOf ex := ⟨_, rfl⟩
  rw [← hup]
  have e3 := rules_ok (N := M) (by omega) up l hc
  have hwy : (if 0 < ex then (2 : Int) else 4) = wy up := by
    rw [hup]
    unfold wy upOf
    by_cases h : 0 < ex <;> simp [h]
  have hlen : (ru up l).length = l.length := by
    unfold ru
    rw [List.length_map]
  have c2 : cut ((ru up l).map PyData.int) none (some (n : Int)) = ((ru up l).map PyData.int).take n := cut_take _ _ (by rw [List.length_map, hlen]; exact hn)
  have s1 := sum_ints (ru up l)
  have s2 : b1 .sum (.list (((ru up l).map PyData.int).take n)) = some (.d (.int ((ru up l).take n).sum)) := by
    rw [← List.map_take]
    exact sum_ints _
  have hs := ru_sum (up := up) hw hc
  have hm : mulOk ex ((ru up l).take n).sum = true := mulOk_l (by omega) (by omega)
  have hd1 := sub_mod_div (ex * ((ru up l).take n).sum) 1 (by decide)
  rw [step (df := f32) rfl rfl]
  by_cases h : 0 < ex
  · rw [if_pos h] at hwy
    rw [← hwy] at e3
    by_cases hS : 1 < (ru up l).sum
    · have hd := sub_mod_div (ex * ((ru up l).take n).sum) (ru up l).sum (by omega)
      have h2 : 0 < (ru up l).sum := by omega
      have h3 : (ru up l).sum < 1073741824 := by omega
      simp [f32, e1, e2, e3, ← hex, h, b1_int, b2_max, s1, s2, c1, c2, hm, hS, hd, h2, h3]
    · simp [f32, e1, e2, e3, ← hex, h, b1_int, b2_max, s1, s2, c1, c2, hm, hS, hd1]
  · rw [if_neg h] at hwy
    rw [← hwy] at e3
    by_cases hS : 1 < (ru up l).sum
    · have hd := sub_mod_div (ex * ((ru up l).take n).sum) (ru up l).sum (by omega)
      have h2 : 0 < (ru up l).sum := by omega
      have h3 : (ru up l).sum < 1073741824 := by omega
      simp [f32, e1, e2, e3, ← hex, h, b1_int, b2_max, s1, s2, c1, c2, hm, hS, hd, h2, h3]
    · simp [f32, e1, e2, e3, ← hex, h, b1_int, b2_max, s1, s2, c1, c2, hm, hS, hd1]
end K63

set_option linter.all false
set_option maxRecDepth 100000
set_option maxHeartbeats 4000000
/-! The law's leaves. -/
namespace K63
open PySem Ev
def lt (l : List Th) (w : Int) : Nat → List Th → List Int
  | _, [] => []
  | k, t :: m => lv t (topAt l w k) ++ lt l w (k + 1) m
theorem lt_len (l : List Th) (w : Int) : ∀ (m : List Th) (k : Nat), (lt l w k m).length ≤ cnts m
  | [], k => Nat.le_refl _
  | t :: m, k => by
    have h1 := lv_len t (topAt l w k)
    have h2 := lt_len l w m (k + 1)
    show (lv t (topAt l w k) ++ lt l w (k + 1) m).length ≤ cnt t + cnts m
    rw [List.length_append]
    omega
theorem loop32 {N d : Nat} (hN : d + 3 ≤ N) (l : List Th) (hwl : wfs l d) (hcl : cnts l ≤ 100) (w : Int) (hb : -1000000000000 < w - wds l ∧ w - wds l < 1000000000000) : ∀ (m : List Th) (k : Nat) (f : List Int) (s3 s4 : Sl), Free s3 → Free s4 → wfs m d → cnts m ≤ 100 → k + m.length ≤ l.length → f.length + cnts m ≤ 1000 →
    ∃ t3 t4, forL (fun x r2 => (asn (.t [.n 3 false, .n 4 false]) (.d x) r2).bind fun _ r3 => evB (callN P W N) W f34_b0 r3) (enumD k (encs m)) [.val (.tuple (encs l)), .val (.int w), .val (.tuple (f.map PyData.int)), s3, s4] = .ok .nx [.val (.tuple (encs l)), .val (.int w), .val (.tuple ((f ++ lt l w k m).map PyData.int)), t3, t4]
  | [], k, f, s3, s4, h3, h4, hw, hc, hk, hl => ⟨s3, s4, by
      show _ = Res.ok Fl.nx [Sl.val (.tuple (encs l)), .val (.int w), .val (.tuple ((f ++ []).map PyData.int)), s3, s4]
      rw [List.append_nil]
      rfl⟩
  | t :: m, k, f, s3, s4, h3, h4, hw, hc, hk, hl => by
    have hc' : cnt t + cnts m ≤ 100 := hc
    have hl' : f.length + (cnt t + cnts m) ≤ 1000 := hl
    have hk' : k + (m.length + 1) ≤ l.length := hk
    have hv := lv_len t (topAt l w k)
    have e1 := top30 (N := N) (d := d) hN l hwl hcl w hb k (by omega)
    have e2 : callN P W N 33 [.val (.tuple [enc t]), .val (.int (topAt l w k))] = .ok false (.tuple ((lv t (topAt l w k)).map PyData.int)) [] := by
      have h := inner31 d N (by omega) [t] (topAt l w k) ⟨hw.1, trivial⟩ (by show cnt t + 0 ≤ 100; omega)
      have e : lvs [t] (topAt l w k) = lv t (topAt l w k) := by
        show lv t (topAt l w k) ++ [] = _
        rw [List.append_nil]
      rw [e] at h
      exact h
    have hb1 : bop .add (.tuple (f.map PyData.int)) (.tuple ((lv t (topAt l w k)).map PyData.int)) = some (.d (.tuple ((f ++ lv t (topAt l w k)).map PyData.int))) := by
      rw [bop_tup, List.map_append]
      refine if_pos ?_
      rw [List.length_map, List.length_map]
      show _ ≤ 16777216
      omega
    obtain ⟨t3, t4, e⟩ := loop32 hN l hwl hcl w hb m (k + 1) (f ++ lv t (topAt l w k)) (.val (.int k)) (.val (enc t)) (.inr ⟨_, rfl⟩) (.inr ⟨_, rfl⟩) hw.2 (by omega) (by omega) (by rw [List.length_append]; omega)
    refine ⟨t3, t4, ?_⟩
    show forL _ (PyData.tuple [.int k, enc t] :: enumD (k + 1) (encs m)) _ = _
    rw [for_nx (r' := [.val (.tuple (encs l)), .val (.int w), .val (.tuple ((f ++ lv t (topAt l w k)).map PyData.int)), .val (.int k), .val (enc t)]), e]
    · show _ = Res.ok Fl.nx [Sl.val (.tuple (encs l)), .val (.int w), .val (.tuple ((f ++ (lv t (topAt l w k) ++ lt l w (k + 1) m)).map PyData.int)), t3, t4]
      rw [List.append_assoc]
    · simp [f34_b0, sto_free h3, sto_free h4, SZ, e1, e2, hb1]
theorem leaves32 {N d : Nat} (hN : d + 4 ≤ N) (l : List Th) (hw : wfs l d) (hc : cnts l ≤ 100) (w : Int) (hb : -1000000000000 < w - wds l ∧ w - wds l < 1000000000000) : callN P W N 34 [.val (.tuple (encs l)), .val (.int w)] = .ok false (.tuple ((lt l w 0 l).map PyData.int)) [] := by
  obtain ⟨M, rfl⟩ : ∃ M, N = M + 1 := ⟨N - 1, by omega⟩
  obtain ⟨t3, t4, e⟩ := loop32 (N := M) (d := d) (by omega) l hw hc w hb l 0 [] .un .un (.inl rfl) (.inl rfl) hw hc (by omega) (by simp; omega)
  have ef : evS (callN P W M) W f34_l0 [.val (.tuple (encs l)), .val (.int w), .val (.tuple []), .un, .un] = .ok .nx [.val (.tuple (encs l)), .val (.int w), .val (.tuple ((lt l w 0 l).map PyData.int)), t3, t4] := by
    rw [show f34_l0 = IS.fr (.t [.n 3 false, .n 4 false]) (.enm (.var 0)) f34_b0 from rfl, s_for]
    have ei : evI (callN P W M) (.enm (.var 0)) [.val (.tuple (encs l)), .val (.int w), .val (.tuple []), .un, .un] = .ok (enumD 0 (encs l)) [.val (.tuple (encs l)), .val (.int w), .val (.tuple []), .un, .un] := by simp [Ev.listOf]
    rw [ei]
    exact e
  rw [step (df := f34) rfl rfl]
  simp [f34, ef, SZ]
end K63

set_option linter.all false
set_option maxRecDepth 100000
set_option maxHeartbeats 4000000
/-! The law's word. -/
namespace K63
open PySem Ev
/-- a space that shrinks by an order -/
def soft (t : Th) : Bool := isSp t && (decide (0 < am false t) && decide (0 < od false t))
theorem soft29 (N : Nat) (l : List Th) (hc : cnts l ≤ 100) (w ex r : D) : (ev (callN P W N) f31_c0).1 [.val (.tuple (encs l)), .val w, .val ex, .val r, .un, .un] = .ok (.f (.list ((l.filter soft).map enc))) [.val (.tuple (encs l)), .val w, .val ex, .val r, .un, .un] := by
  refine e_filter (xs := l) (en := enc) soft enc (by simp [itemsOf, encs_map]) (fun t ht => ?_) (len_small hc)
  cases t with
  | sign s => exact ⟨_, by simp [item, wipeE, enc, idx0, soft, isSp]; rfl, by simp [wipeE]⟩
  | kern n => exact ⟨_, by simp [item, wipeE, enc, idx0, soft, isSp]; rfl, by simp [wipeE]⟩
  | place n => exact ⟨_, by simp [item, wipeE, enc, idx0, soft, isSp]; rfl, by simp [wipeE]⟩
  | box k => exact ⟨_, by simp [item, wipeE, enc, idx0, soft, isSp]; rfl, by simp [wipeE]⟩
  | space w a o b p =>
    have i4 : idx (.tuple [.str "space", .int w, .int a, .int o, .int b, .int p]) (.int 4) = some (.int b) := rfl
    have i5 : idx (.tuple [.str "space", .int w, .int a, .int o, .int b, .int p]) (.int 5) = some (.int p) := rfl
    by_cases h1 : 0 < b
    · by_cases h2 : 0 < p
      · exact ⟨_, by simp [item, wipeE, enc, idx0, i4, i5, soft, isSp, am, od, h1, h2]; rfl, by simp [wipeE]⟩
      · exact ⟨_, by simp [item, wipeE, enc, idx0, i4, i5, soft, isSp, am, od, h1, h2]; rfl, by simp [wipeE]⟩
    · exact ⟨_, by simp [item, wipeE, enc, idx0, i4, i5, soft, isSp, am, od, h1]; rfl, by simp [wipeE]⟩
/-! data that may be compared -/
mutual
theorem lay_t : ∀ (t : Th) (d : Nat), wf t d → (enc t).canLay0 = true ∧ PyData.depth (enc t) ≤ 2 * d + 2
  | .sign s, d, h => by
    have hs : PyData.strOk s = true := by
      simp [wf] at h
      rcases h with rfl | rfl | rfl | rfl | rfl <;> decide +kernel
    refine ⟨?_, ?_⟩
    · have h0 : PyData.strOk "sign" = true := by decide +kernel
      simp [enc, PyData.canLay0, PyData.canLayAll0, hs, h0]
    · simp [enc, PyData.depth, PyData.depthAll]
  | .kern n, d, h => by
    refine ⟨?_, ?_⟩
    · simp [enc, PyData.canLay0, PyData.canLayAll0]
      decide +kernel
    · simp [enc, PyData.depth, PyData.depthAll]
  | .place n, d, h => by
    refine ⟨?_, ?_⟩
    · simp [enc, PyData.canLay0, PyData.canLayAll0]
      decide +kernel
    · simp [enc, PyData.depth, PyData.depthAll]
  | .space w a o b p, d, h => by
    refine ⟨?_, ?_⟩
    · simp [enc, PyData.canLay0, PyData.canLayAll0]
      decide +kernel
    · simp [enc, PyData.depth, PyData.depthAll]
  | .box l, d, h => by
    obtain ⟨h1, h2⟩ := h
    obtain ⟨a1, a2⟩ := lay_l l (d - 1) h2
    refine ⟨?_, ?_⟩
    · simp [enc, PyData.canLay0, PyData.canLayAll0, a1]
      decide +kernel
    · simp [enc, PyData.depth, PyData.depthAll]
      omega
theorem lay_l : ∀ (l : List Th) (d : Nat), wfs l d → PyData.canLayAll0 (encs l) = true ∧ PyData.depthAll (encs l) ≤ 2 * d + 2
  | [], d, h => ⟨rfl, Nat.zero_le _⟩
  | t :: l, d, h => by
    obtain ⟨a1, a2⟩ := lay_t t d h.1
    obtain ⟨b1, b2⟩ := lay_l l d h.2
    refine ⟨?_, ?_⟩
    · show ((enc t).canLay0 && PyData.canLayAll0 (encs l)) = true
      rw [a1, b1]
      rfl
    · show max (PyData.depth (enc t)) (PyData.depthAll (encs l)) ≤ _
      omega
end
end K63

set_option linter.all false
set_option maxRecDepth 100000
set_option maxHeartbeats 4000000
namespace K63
open PySem Ev
theorem ne_soft (l : List Th) {d : Nat} (hd : d ≤ 10) (h : wfs l d) (q : Th → Bool) : cop .ne (.list ((l.filter q).map enc)) (.list []) = some (decide (l.filter q ≠ [])) := by
  have hw : ∀ k : List Th, (∀ t ∈ k, t ∈ l) → PyData.canLayAll0 (k.map enc) = true ∧ PyData.depthAll (k.map enc) ≤ 2 * d + 2 := fun k hk => by
    induction k with
    | nil => exact ⟨rfl, Nat.zero_le _⟩
    | cons t k ih =>
      obtain ⟨a1, a2⟩ := lay_t t d (wfs_le l d h t (hk t List.mem_cons_self))
      obtain ⟨b1, b2⟩ := ih fun x hx => hk x (List.mem_cons_of_mem _ hx)
      refine ⟨?_, ?_⟩
      · show ((enc t).canLay0 && PyData.canLayAll0 (k.map enc)) = true
        rw [a1, b1]; rfl
      · show max (PyData.depth (enc t)) (PyData.depthAll (k.map enc)) ≤ _
        omega
  obtain ⟨c1, c2⟩ := hw (l.filter q) fun t ht => (List.mem_filter.mp ht).1
  have hs : eqOk (.list ((l.filter q).map enc)) (.list []) = true := by
    have h1 : SeqAt.shaped (.list ((l.filter q).map enc)) = true := by
      unfold SeqAt.shaped
      rw [Bool.and_eq_true]
      refine ⟨c1, decide_eq_true ?_⟩
      show PyData.depthAll _ + 1 ≤ 64
      omega
    unfold eqOk
    rw [h1]
    rfl
  show (if eqOk _ _ = true then some (!PyData.eqv (.list ((l.filter q).map enc)) (.list [])) else none) = _
  rw [if_pos hs]
  cases l.filter q with
  | nil => rfl
  | cons i l => rfl
def wordM (l : List Th) (w : Int) : Str :=
  if w - wds l = 0 ∨ (0 < w - wds l ∧ 0 < (ru (upOf (w - wds l)) l).sum) then ""
  else if w - wds l < 0 ∧ (-(w - wds l) ≤ (ru (upOf (w - wds l)) l).sum ∨ l.filter soft ≠ []) then ""
  else if 0 < w - wds l then "loose" else "tight"
theorem word29 {N d : Nat} (hN : d + 3 ≤ N) (hd : d ≤ 10) (l : List Th) (hw : wfs l d) (hc : cnts l ≤ 100) (w : Int) : callN P W N 31 [.val (.tuple (encs l)), .val (.int w)] = .ok false (.str (wordM l w)) [] := by
  obtain ⟨M, rfl⟩ : ∃ M, N = M + 1 := ⟨N - 1, by omega⟩
  have e1 := law_wide d M (by omega) l hw hc
  unfold wordM
  obtain ⟨ex, hex⟩ : ∃ ex, ex = w - wds l := ⟨_, rfl⟩
  rw [← hex]
  obtain ⟨up, hup⟩ : ∃ up, up = upOf ex := ⟨_, rfl⟩
  rw [← hup]
  have e3 := rules_ok (N := M) (by omega) up l hc
  have hwy : (if 0 < ex then (2 : Int) else 4) = wy up := by
    rw [hup]
    unfold wy upOf
    by_cases h : 0 < ex <;> simp [h]
  have s1 := sum_ints (ru up l)
  have e4 := soft29 M l hc (.int w) (.int ex) (.list ((ru up l).map PyData.int))
  have e5 := ne_soft l hd hw soft
  rw [step (df := f31) rfl rfl]
  by_cases h0 : ex = 0
  · have h : ¬ 0 < ex := by omega
    rw [if_neg h] at hwy
    rw [← hwy] at e3
    simp [f31, e1, e3, ← hex, h0, s1]
  · by_cases h : 0 < ex
    · rw [if_pos h] at hwy
      rw [← hwy] at e3
      have hn : ¬ ex < 0 := by omega
      by_cases hS : 0 < (ru up l).sum
      · simp [f31, e1, e3, ← hex, h0, h, s1, hS]
      · simp [f31, e1, e3, ← hex, h0, h, hn, s1, hS, e4]
    · rw [if_neg h] at hwy
      rw [← hwy] at e3
      have hn : ex < 0 := by omega
      by_cases hS : -ex ≤ (ru up l).sum
      · simp [f31, e1, e3, ← hex, h0, h, hn, s1, hS, e4, SZ]
      · by_cases hf : l.filter soft = []
        · have e5' : cop .ne (.list ((l.filter soft).map enc)) (.list []) = some false := by rw [e5]; simp [hf]
          obtain ⟨fs, hfs⟩ : ∃ fs, fs = (l.filter soft).map enc := ⟨_, rfl⟩
          rw [← hfs] at e4 e5'
          simp [f31, e1, e3, ← hex, h0, h, hn, s1, hS, e4, e5', SZ, hf]
        · have e5' : cop .ne (.list ((l.filter soft).map enc)) (.list []) = some true := by rw [e5]; simp [hf]
          obtain ⟨fs, hfs⟩ : ∃ fs, fs = (l.filter soft).map enc := ⟨_, rfl⟩
          rw [← hfs] at e4 e5'
          simp [f31, e1, e3, ← hex, h0, h, hn, s1, hS, e4, e5', SZ, hf]
end K63

set_option linter.all false
set_option maxRecDepth 100000
set_option maxHeartbeats 4000000
/-! What is due. -/
namespace K63
open PySem Ev
def dueD (l : List Th) (w : Int) : D := if wordM l w = "" then .tuple [.str "set", .tuple ((lt l w 0 l ++ [w]).map PyData.int)] else .tuple [.str (wordM l w)]
theorem due33 {N d : Nat} (hN : d + 5 ≤ N) (hd : d ≤ 10) (l : List Th) (hw : wfs l d) (hc : cnts l ≤ 100) (w : Int) (hb : -1000000000000 < w - wds l ∧ w - wds l < 1000000000000) : callN P W N 35 [.val (.tuple (encs l)), .val (.int w)] = .ok false (dueD l w) [] := by
  obtain ⟨M, rfl⟩ : ∃ M, N = M + 1 := ⟨N - 1, by omega⟩
  have e1 := word29 (N := M) (d := d) (by omega) hd l hw hc w
  have e2 := leaves32 (N := M) (d := d) (by omega) l hw hc w hb
  have hl := lt_len l w l 0
  have hb1 : bop .add (.tuple ((lt l w 0 l).map PyData.int)) (.tuple [.int w]) = some (.d (.tuple ((lt l w 0 l ++ [w]).map PyData.int))) := by
    rw [bop_tup, List.map_append]
    refine if_pos ?_
    rw [List.length_map]
    show _ + 1 ≤ 16777216
    omega
  unfold dueD
  rw [step (df := f35) rfl rfl]
  by_cases h : wordM l w = ""
  · rw [h] at e1 ⊢
    simp [f35, e1, e2, hb1, SZ]
  · simp [f35, e1, e2, h, SZ]
end K63

set_option linter.all false
set_option maxRecDepth 100000
set_option maxHeartbeats 4000000
/-! The program's places are the due ones. -/
namespace K63
open PySem Ev
theorem topL_spec : ∀ l : List Int, l ≠ [] → topL l ∈ l ∧ ∀ x ∈ l, x ≤ topL l
  | [], h => absurd rfl h
  | y :: r, _ => by
    obtain ⟨h1, h2, h3⟩ := maxL_spec r y
    refine ⟨?_, fun x hx => ?_⟩
    · show maxL y r ∈ _
      rcases h1 with h1 | h1
      · rw [h1]; exact List.mem_cons_self
      · exact List.mem_cons_of_mem _ h1
    · show x ≤ maxL y r
      rcases List.mem_cons.mp hx with rfl | hx
      · exact h2
      · exact h3 x hx
theorem sum_pos_mem : ∀ {l : List Int}, (∀ x ∈ l, 0 ≤ x ∧ x ≤ 7) → ∀ y ∈ l, y ≤ l.sum
  | [], _, y, h => nomatch h
  | x :: l, hx, y, h => by
    have h1 := hx x List.mem_cons_self
    have h0 := sum_nn fun z hz => hx z (List.mem_cons_of_mem _ hz)
    rw [List.sum_cons]
    rcases List.mem_cons.mp h with rfl | h
    · omega
    · have h2 := sum_pos_mem (fun z hz => hx z (List.mem_cons_of_mem _ hz)) y h
      omega
theorem sum_zero : ∀ {l : List Int}, (∀ x ∈ l, x = 0) → l.sum = 0
  | [], _ => rfl
  | x :: l, h => by
    rw [List.sum_cons, h x List.mem_cons_self, sum_zero fun z hz => h z (List.mem_cons_of_mem _ hz)]
    rfl
theorem sum_iff {up : Bool} {l : List Th} {d : Nat} (h : wfs l d) : ((ru up l).sum = 0 ↔ ords up l = []) := by
  constructor
  · intro hs
    by_cases h0 : ords up l = []
    · exact h0
    · exfalso
      obtain ⟨hm, _⟩ := topL_spec _ h0
      rw [← tp_eq h h0] at hm
      obtain ⟨t, ht, e⟩ := List.mem_map.mp hm
      obtain ⟨ht1, ht2⟩ := List.mem_filter.mp ht
      unfold isPos at ht2
      simp only [Bool.and_eq_true, decide_eq_true_eq] at ht2
      have h3 := sum_pos_mem (ru_nn (up := up) h) (ruT up (tp up l) t) (List.mem_map.mpr ⟨t, ht1, rfl⟩)
      unfold ruT at h3
      rw [if_pos ⟨ht2.1, e⟩] at h3
      omega
  · intro h0
    refine sum_zero fun x hx => ?_
    obtain ⟨t, ht, rfl⟩ := List.mem_map.mp hx
    unfold ruT
    split
    · rename_i hs
      exact ru_zero h h0 t ht hs.1
    · rfl
theorem soft_iff {l : List Th} {d : Nat} (h : wfs l d) (h0 : ords false l ≠ []) : (l.filter soft = [] ↔ topL (ords false l) = 0) := by
  obtain ⟨hm, hg⟩ := topL_spec _ h0
  constructor
  · intro hf
    obtain ⟨t, ht, e⟩ := List.mem_map.mp hm
    obtain ⟨ht1, ht2⟩ := List.mem_filter.mp ht
    unfold isPos at ht2
    simp only [Bool.and_eq_true, decide_eq_true_eq] at ht2
    have hn := (od_nn (up := false) (wfs_le l d h t ht1)).1
    by_cases hz : od false t = 0
    · omega
    · exfalso
      have : t ∈ l.filter soft := List.mem_filter.mpr ⟨ht1, by
        unfold soft
        have h1 : 0 < od false t := by omega
        simp [ht2.1, ht2.2, h1]⟩
      rw [hf] at this
      exact nomatch this
  · intro hz
    refine List.filter_eq_nil_iff.mpr fun t ht hs => ?_
    unfold soft at hs
    simp only [Bool.and_eq_true, decide_eq_true_eq] at hs
    have : od false t ∈ ords false l := List.mem_map.mpr ⟨t, List.mem_filter.mpr ⟨ht, by unfold isPos; simp [hs.1, hs.2.1]⟩, rfl⟩
    have := hg _ this
    omega
theorem soft_nil {l : List Th} {d : Nat} (h : wfs l d) (h0 : ords false l = []) : l.filter soft = [] := by
  refine List.filter_eq_nil_iff.mpr fun t ht hs => ?_
  unfold soft at hs
  simp only [Bool.and_eq_true, decide_eq_true_eq] at hs
  have : od false t ∈ ords false l := List.mem_map.mpr ⟨t, List.mem_filter.mpr ⟨ht, by unfold isPos; simp [hs.1, hs.2.1]⟩, rfl⟩
  rw [h0] at this
  exact nomatch this
theorem runs_get : ∀ (l : List Int) (a : Int) (j : Nat), j ≤ l.length → (runs a l)[j]? = some (a + (l.take j).sum)
  | [], a, j, h => by
    have : j = 0 := by simpa using h
    subst this
    show some a = some (a + 0)
    rw [Int.add_zero]
  | x :: l, a, 0, h => by
    show some a = some (a + 0)
    rw [Int.add_zero]
  | x :: l, a, j + 1, h => by
    show (runs (a + x) l)[j]? = _
    rw [runs_get l (a + x) j (by simpa using h), List.take_succ_cons, List.sum_cons, Int.add_assoc]
theorem lz_lt (l : List Th) (w : Int) : ∀ (m : List Th) (k : Nat) (as : List Int), (∀ j, j < m.length → as[j]? = some (topAt l w (k + j))) → lz m as = lt l w k m
  | [], k, as, h => by cases as <;> rfl
  | t :: m, k, [], h => by
    have := h 0 (Nat.succ_pos _)
    exact nomatch this
  | t :: m, k, a :: as, h => by
    have h0 := h 0 (Nat.succ_pos _)
    have e0 : a = topAt l w k := by simpa using h0
    show lv t a ++ lz m as = lv t (topAt l w k) ++ lt l w (k + 1) m
    rw [e0, lz_lt l w m (k + 1) as fun j hj => by
      have := h (j + 1) (Nat.succ_lt_succ hj)
      rw [List.getElem?_cons_succ] at this
      rw [this]
      congr 2
      omega]
theorem wds_take (l : List Th) (j : Nat) : ((l.map wd).take j).sum = wds (l.take j) := by
  rw [← List.map_take, wds_sum]
theorem tops_flat (l : List Th) (w : Int) (h : w - wds l = 0) : lz l (runs 0 (l.map wd)) = lt l w 0 l := by
  refine lz_lt l w l 0 _ fun j hj => ?_
  rw [runs_get _ _ _ (by rw [List.length_map]; omega), wds_take]
  unfold topAt
  rw [h, Nat.zero_add, Int.zero_mul, Int.zero_ediv, Int.zero_add, Int.add_zero]
theorem tops_mix (l : List Th) (w : Int) (hS : 0 < (ru (upOf (w - wds l)) l).sum) : lz l (((runs 0 (l.map wd)).zip (runs 0 (ru (upOf (w - wds l)) l))).map (mixT (w - wds l) (ru (upOf (w - wds l)) l).sum)) = lt l w 0 l := by
  refine lz_lt l w l 0 _ fun j hj => ?_
  have e1 := runs_get (l.map wd) 0 j (by rw [List.length_map]; omega)
  have e2 := runs_get (ru (upOf (w - wds l)) l) 0 j (by unfold ru; rw [List.length_map]; omega)
  rw [wds_take] at e1
  have e3 := (List.getElem?_zip_eq_some (l₁ := runs 0 (l.map wd)) (l₂ := runs 0 (ru (upOf (w - wds l)) l)) (i := j) (z := (_, _))).mpr ⟨e1, e2⟩
  rw [List.getElem?_map, e3]
  unfold topAt mixT
  have hi : (if (ru (upOf (w - wds l)) l).sum > 1 then (ru (upOf (w - wds l)) l).sum else 1) = (ru (upOf (w - wds l)) l).sum := by
    split <;> omega
  rw [hi, Nat.zero_add, Int.zero_add, Int.zero_add]
  rfl
end K63

set_option linter.all false
set_option maxRecDepth 100000
set_option maxHeartbeats 4000000
/-! The program's places are the due ones. -/
namespace K63
open PySem Ev
/-- what comes of the tops -/
theorem tops_due {l : List Th} {d : Nat} (hw : wfs l d) (hc : cnts l ≤ 100) (w : Int) :
    (∃ s, topsM l w = (false, .str s) ∧ s ≠ "" ∧ wordM l w = s) ∨ (∃ b as, topsM l w = (b, .list (as.map PyData.int)) ∧ wordM l w = "" ∧ lz l as = lt l w 0 l) := by
  have hf := tops_flat l w
  have hm := tops_mix l w
  unfold topsM wordM
  have hs := ru_sum (up := upOf (w - wds l)) hw hc
  obtain ⟨ex, hex⟩ : ∃ ex, ex = w - wds l := ⟨_, rfl⟩
  rw [← hex] at hs hf hm ⊢
  show (∃ s, (if ex = 0 then _ else if 0 < ex ∧ (ru (upOf ex) l).sum = 0 then _ else if ex < 0 ∧ ((ru (upOf ex) l).sum = 0 ∨ ((ords (upOf ex) l ≠ [] ∧ topL (ords (upOf ex) l) = 0) ∧ (ru (upOf ex) l).sum < -ex)) then _ else (true, PyData.list ((((runs 0 (l.map wd)).zip (runs 0 (ru (upOf ex) l))).map (mixT ex (ru (upOf ex) l).sum)).map PyData.int))) = _ ∧ _) ∨ (∃ b as, (if ex = 0 then _ else if 0 < ex ∧ (ru (upOf ex) l).sum = 0 then _ else if ex < 0 ∧ ((ru (upOf ex) l).sum = 0 ∨ ((ords (upOf ex) l ≠ [] ∧ topL (ords (upOf ex) l) = 0) ∧ (ru (upOf ex) l).sum < -ex)) then _ else (true, PyData.list ((((runs 0 (l.map wd)).zip (runs 0 (ru (upOf ex) l))).map (mixT ex (ru (upOf ex) l).sum)).map PyData.int))) = _ ∧ _)
  by_cases h0 : ex = 0
  · right
    rw [if_pos h0, if_pos (.inl h0)]
    exact ⟨_, _, rfl, rfl, hf h0⟩
  · rw [if_neg h0]
    by_cases hp : 0 < ex
    · by_cases hS : (ru (upOf ex) l).sum = 0
      · left
        rw [if_pos ⟨hp, hS⟩, if_neg (by omega), if_neg (by omega), if_pos hp]
        exact ⟨_, rfl, by decide +kernel, rfl⟩
      · right
        rw [if_neg (fun z => hS z.2), if_neg (fun z => by omega), if_pos (.inr ⟨hp, by omega⟩)]
        exact ⟨_, _, rfl, rfl, hm (by omega)⟩
    · have hu : upOf ex = false := by unfold upOf; simp [hp]
      rw [if_neg (fun z => hp z.1)]
      have hI := sum_iff (up := upOf ex) hw
      by_cases hS : (ru (upOf ex) l).sum = 0
      · left
        have hn := soft_nil hw (hu ▸ hI.mp hS)
        rw [if_pos ⟨by omega, .inl hS⟩, if_neg (by omega), if_neg (fun z => by
          rcases z.2 with h | h
          · omega
          · exact h hn), if_neg hp]
        exact ⟨_, rfl, by decide +kernel, rfl⟩
      · have ho : ords (upOf ex) l ≠ [] := fun z => hS (hI.mpr z)
        have hF := soft_iff hw (hu ▸ ho)
        by_cases hT : topL (ords (upOf ex) l) = 0 ∧ (ru (upOf ex) l).sum < -ex
        · left
          have hn := hF.mpr (hu ▸ hT.1)
          rw [if_pos ⟨by omega, .inr ⟨⟨ho, hT.1⟩, hT.2⟩⟩, if_neg (by omega), if_neg (fun z => by
            rcases z.2 with h | h
            · omega
            · exact h hn), if_neg hp]
          exact ⟨_, rfl, by decide +kernel, rfl⟩
        · right
          rw [if_neg (fun z => by
            rcases z.2 with h | h
            · exact hS h
            · exact hT ⟨h.1.2, h.2⟩)]
          by_cases hq : -ex ≤ (ru (upOf ex) l).sum
          · rw [if_neg (by omega), if_pos ⟨by omega, .inl hq⟩]
            exact ⟨_, _, rfl, rfl, hm (by omega)⟩
          · have hns : l.filter soft ≠ [] := fun z => hT ⟨by rw [hu]; exact hF.mp z, by omega⟩
            rw [if_neg (by omega), if_pos ⟨by omega, .inr hns⟩]
            exact ⟨_, _, rfl, rfl, hm (by omega)⟩
end K63

set_option linter.all false
set_option maxRecDepth 100000
set_option maxHeartbeats 4000000
/-! What is a strip. -/
namespace K63
open PySem Ev
theorem chn_le (a b : Int) (r : Ev.Env) (k : Ev.Env → Res TV) : chnS .le (some (.int a)) (some (.int b)) r k = if a ≤ b then k r else .ok (.d (.bool false)) r := by
  rw [chnS_some (b := decide (a ≤ b)) (h := cop_le a b)]
  by_cases h : a ≤ b <;> simp [h]
theorem whole0 {N : Nat} (hN : 1 ≤ N) (i lo hi : Int) (h1 : lo ≤ i) (h2 : i ≤ hi) : callN P W N 0 [.val (.int i), .val (.int lo), .val (.int hi)] = .ok false (.bool true) [] := by
  obtain ⟨M, rfl⟩ : ∃ M, N = M + 1 := ⟨N - 1, by omega⟩
  rw [step (df := f0) rfl rfl]
  simp [f0, notDict, isTy, h1, h2, chn_le]
theorem len_tup (l : List D) : b1 .len (.tuple l) = some (.d (.int l.length)) := rfl
theorem row1 {N : Nat} (hN : 1 ≤ N) (l : List D) (lo hi : Int) (h1 : lo ≤ l.length) (h2 : l.length ≤ hi) : callN P W N 1 [.val (.tuple l), .val (.int lo), .val (.int hi)] = .ok false (.bool true) [] := by
  obtain ⟨M, rfl⟩ : ∃ M, N = M + 1 := ⟨N - 1, by omega⟩
  rw [step (df := f1) rfl rfl]
  simp [f1, notDict, isTy, h1, h2, chn_le, len_tup]
theorem sign2 {N : Nat} (hN : 1 ≤ N) (s : Str) (h : s ∈ (["a", "B", "0", "!", " "] : List Str)) : callN P W N 2 [.val (.str s)] = .ok false (.bool true) [] := by
  obtain ⟨M, rfl⟩ : ∃ M, N = M + 1 := ⟨N - 1, by omega⟩
  simp only [List.mem_cons, List.not_mem_nil, or_false] at h
  rcases h with rfl | rfl | rfl | rfl | rfl <;> kernel_rfl
theorem in_kern : inOf (.str "kern") (.tuple [.str "kern", .str "place"]) = some true := by kernel_rfl
theorem in_place : inOf (.str "place") (.tuple [.str "kern", .str "place"]) = some true := by kernel_rfl
theorem in_box : inOf (.str "box") (.tuple [.str "kern", .str "place"]) = some false := by kernel_rfl
theorem all_true {α : Type} : ∀ l : List α, b1 .all (.list (l.map fun _ => .bool true)) = some (.d (.bool true)) := by
  have h : ∀ l : List α, boolsL (l.map fun _ => PyData.bool true) = some (l.map fun _ => true) := fun l => by
    induction l with
    | nil => rfl
    | cons a l ih =>
      show (boolsL (l.map fun _ => PyData.bool true)).map (true :: ·) = _
      rw [ih]
      rfl
  intro l
  show (boolsL _).map _ = _
  rw [h]
  have : (l.map fun _ => true).all id = true := by simp
  simp [this]
theorem thing3 {N : Nat} (hN : 2 ≤ N) (t : Th) {d : Nat} (h : wf t d) : callN P W N 3 [.val (enc t)] = .ok false (.bool true) [] := by
  obtain ⟨M, rfl⟩ : ∃ M, N = M + 1 := ⟨N - 1, by omega⟩
  have r1 : ∀ l : List D, 2 ≤ l.length → l.length ≤ 6 → callN P W M 1 [.val (.tuple l), .val (.int 2), .val (.int 6)] = .ok false (.bool true) [] := fun l h1 h2 => row1 (by omega) l 2 6 (by omega) (by omega)
  have w0 := fun i lo hi h1 h2 => whole0 (N := M) (by omega) i lo hi h1 h2
  rw [step (df := f3) rfl rfl]
  cases t with
  | sign s =>
    have e1 := r1 [.str "sign", .str s] (by simp) (by simp)
    have e2 := sign2 (N := M) (by omega) s h
    simp [f3, enc, e1, e2, idx0, idx1, notDict, isTy, len_tup]
  | kern n =>
    have e1 := r1 [.str "kern", .int n] (by simp) (by simp)
    have e2 := w0 n (-1000000) 1000000 (by have := h.1; omega) (by have := h.2; omega)
    simp [f3, enc, e1, e2, idx0, idx1, notDict, isTy, len_tup, in_kern, SZ]
  | place n =>
    have e1 := r1 [.str "place", .int n] (by simp) (by simp)
    have e2 := w0 n (-10000) 10000 (by have := h.1; omega) (by have := h.2; omega)
    simp [f3, enc, e1, e2, idx0, idx1, notDict, isTy, len_tup, in_place, SZ]
  | box l =>
    have e1 := r1 [.str "box", .tuple (encs l)] (by simp) (by simp)
    simp [f3, enc, e1, idx0, idx1, notDict, isTy, len_tup, in_box, SZ]
  | space w a o b p =>
    obtain ⟨⟨h1, h2⟩, ⟨h3, h4⟩, ⟨h5, h6⟩, ⟨h7, h8⟩, h9, h10⟩ := h
    have e1 := r1 [.str "space", .int w, .int a, .int o, .int b, .int p] (by simp) (by simp)
    have e2 := w0 w (-1000000) 1000000 (by omega) (by omega)
    have i2 : idx (.tuple [.str "space", .int w, .int a, .int o, .int b, .int p]) (.int 2) = some (.int a) := rfl
    have i3 : idx (.tuple [.str "space", .int w, .int a, .int o, .int b, .int p]) (.int 3) = some (.int o) := rfl
    have i4 : idx (.tuple [.str "space", .int w, .int a, .int o, .int b, .int p]) (.int 4) = some (.int b) := rfl
    have i5 : idx (.tuple [.str "space", .int w, .int a, .int o, .int b, .int p]) (.int 5) = some (.int p) := rfl
    have c2 := w0 a 0 100 (by omega) (by omega)
    have c3 := w0 o 0 2 (by omega) (by omega)
    have c4 := w0 b 0 100 (by omega) (by omega)
    have c5 := w0 p 0 2 (by omega) (by omega)
    have e3 : (ev (callN P W M) f3_c0).1 [.val (.tuple [.str "space", .int w, .int a, .int o, .int b, .int p]), .un] = .ok (.f (.list (([2, 4] : List Int).map fun _ => .bool true))) [.val (.tuple [.str "space", .int w, .int a, .int o, .int b, .int p]), .un] := by
      refine e_map (xs := ([2, 4] : List Int)) (en := PyData.int) (fun _ => .bool true) (by simp [itemsOf, SZ]) (fun i hi => ?_) (by decide)
      simp only [List.mem_cons, List.not_mem_nil, or_false] at hi
      rcases hi with rfl | rfl
      · exact ⟨_, by simp [item, wipeE, i2, i3, c2, c3]; rfl, by simp [wipeE]⟩
      · exact ⟨_, by simp [item, wipeE, i4, i5, c4, c5]; rfl, by simp [wipeE]⟩
    have e4 := all_true ([2, 4] : List Int)
    obtain ⟨xs, hx⟩ : ∃ xs, xs = ([2, 4] : List Int).map fun _ => PyData.bool true := ⟨_, rfl⟩
    rw [← hx] at e3 e4
    simp [f3, enc, e1, e2, idx0, idx1, notDict, isTy, len_tup, e3, e4]
end K63

set_option linter.all false
set_option maxRecDepth 100000
set_option maxHeartbeats 4000000
/-! The spaces within. -/
namespace K63
open PySem Ev
abbrev St := List Th × Nat
def stD (s : St) : D := .tuple [.tuple (encs s.1), .int s.2]
def tot : List St → Nat
  | [] => 0
  | s :: r => cnts s.1 + tot r
theorem tot_app : ∀ a b : List St, tot (a ++ b) = tot a + tot b
  | [], b => by rw [List.nil_append]; show _ = 0 + _; omega
  | s :: a, b => by
    show cnts s.1 + tot (a ++ b) = cnts s.1 + tot a + tot b
    rw [tot_app a b]
    omega
def isBox : Th → Bool
  | .box _ => true
  | _ => false
def inn : Th → List Th
  | .box k => k
  | _ => []
def bxs (l : List Th) (p : Nat) : List St := (l.filter isBox).map fun t => (inn t, p + 1)
theorem bxs_tot (p : Nat) : ∀ l : List Th, tot (bxs l p) + l.length = cnts l
  | [] => rfl
  | t :: l => by
    have ih := bxs_tot p l
    have hc : cnts (t :: l) = cnt t + cnts l := rfl
    rw [hc, List.length_cons]
    cases t with
    | box k =>
      have e : bxs (.box k :: l) p = (k, p + 1) :: bxs l p := rfl
      have e2 : tot ((k, p + 1) :: bxs l p) = cnts k + tot (bxs l p) := rfl
      have e3 : cnt (.box k) = cnts k + 1 := rfl
      rw [e, e2]
      omega
    | sign s => (have e : bxs (.sign s :: l) p = bxs l p := rfl); (have e3 : cnt (.sign s) = 1 := rfl); rw [e]; omega
    | kern s => (have e : bxs (.kern s :: l) p = bxs l p := rfl); (have e3 : cnt (.kern s) = 1 := rfl); rw [e]; omega
    | place s => (have e : bxs (.place s :: l) p = bxs l p := rfl); (have e3 : cnt (.place s) = 1 := rfl); rw [e]; omega
    | space a b c d f => (have e : bxs (.space a b c d f :: l) p = bxs l p := rfl); (have e3 : cnt (.space a b c d f) = 1 := rfl); rw [e]; omega
theorem bxs_len (l : List Th) (p : Nat) : (bxs l p).length ≤ l.length := by
  unfold bxs
  rw [List.length_map]
  exact List.length_filter_le _ _
def GoodSt (s : St) : Prop := ∃ d, wfs s.1 d ∧ d + s.2 ≤ 3
theorem bxs_good {l : List Th} {p : Nat} (h : GoodSt (l, p)) : ∀ s ∈ bxs l p, GoodSt s := by
  obtain ⟨d, h1, h2⟩ := h
  intro s hs
  obtain ⟨t, ht, rfl⟩ := List.mem_map.mp hs
  obtain ⟨ht1, ht2⟩ := List.mem_filter.mp ht
  have hw := wfs_le l d h1 t ht1
  have h2' : d + p ≤ 3 := h2
  cases t with
  | box k =>
    obtain ⟨g1, g2⟩ := hw
    exact ⟨d - 1, g2, by show d - 1 + (p + 1) ≤ 3; omega⟩
  | _ => exact nomatch ht2
theorem ne_list (xs : List D) (h1 : PyData.canLayAll0 xs = true) (h2 : PyData.depthAll xs ≤ 60) : cop .ne (.list xs) (.list []) = some (decide (xs ≠ [])) := by
  have hs : eqOk (.list xs) (.list []) = true := by
    have h1 : SeqAt.shaped (.list xs) = true := by
      unfold SeqAt.shaped
      rw [Bool.and_eq_true]
      refine ⟨h1, decide_eq_true ?_⟩
      show PyData.depthAll _ + 1 ≤ 64
      omega
    unfold eqOk
    rw [h1]
    rfl
  show (if eqOk _ _ = true then some (!PyData.eqv (.list xs) (.list [])) else none) = _
  rw [if_pos hs]
  cases xs with
  | nil => rfl
  | cons i l => rfl
theorem lay_st : ∀ st : List St, (∀ s ∈ st, GoodSt s) → PyData.canLayAll0 (st.map stD) = true ∧ PyData.depthAll (st.map stD) ≤ 20
  | [], _ => ⟨rfl, Nat.zero_le _⟩
  | s :: st, h => by
    obtain ⟨b1, b2⟩ := lay_st st fun x hx => h x (List.mem_cons_of_mem _ hx)
    obtain ⟨d, h1, h2⟩ := h s List.mem_cons_self
    obtain ⟨a1, a2⟩ := lay_l s.1 d h1
    refine ⟨?_, ?_⟩
    · show ((stD s).canLay0 && PyData.canLayAll0 (st.map stD)) = true
      rw [b1, Bool.and_true]
      simp [stD, PyData.canLay0, PyData.canLayAll0, a1]
    · show max (PyData.depth (stD s)) (PyData.depthAll (st.map stD)) ≤ _
      have : PyData.depth (stD s) ≤ 20 := by
        simp [stD, PyData.depth, PyData.depthAll]
        omega
      omega
theorem cut_pop (l : List D) (x : D) : cut (l ++ [x]) none (some (-1)) = l := by
  have h : (-1 + ((l.length : Int) + 1)).toNat = l.length := by omega
  simp [cut, sIx, h]
theorem fits4 {N : Nat} (hN : 2 ≤ N) (l : List Th) {d : Nat} (hw : wfs l d) (hc : cnts l ≤ 100) (s0 s1 s2 s3 s5 s6 : Sl) : (ev (callN P W N) f4_c2).1 [s0, s1, s2, s3, .val (.tuple (encs l)), s5, s6, .un] = .ok (.f (.list (l.map fun _ => .bool true))) [s0, s1, s2, s3, .val (.tuple (encs l)), s5, s6, .un] := by
  refine e_map (xs := l) (en := enc) (fun _ => .bool true) (by simp [itemsOf, encs_map]) (fun t ht => ?_) (len_small hc)
  have e1 := thing3 hN t (wfs_le l d hw t ht)
  exact ⟨_, by simp [item, wipeE, e1]; rfl, by simp [wipeE]⟩
theorem boxes4 (N : Nat) (l : List Th) (hc : cnts l ≤ 100) (s0 s1 s2 s3 s6 : Sl) (p : Nat) : (ev (callN P W N) f4_c1).1 [s0, s1, s2, s3, .val (.tuple (encs l)), .val (.int p), s6, .un] = .ok (.f (.list ((bxs l p).map stD))) [s0, s1, s2, s3, .val (.tuple (encs l)), .val (.int p), s6, .un] := by
  have e : (ev (callN P W N) f4_c1).1 [s0, s1, s2, s3, .val (.tuple (encs l)), .val (.int p), s6, .un] = .ok (.f (.list ((l.filter isBox).map fun t => stD (inn t, p + 1)))) [s0, s1, s2, s3, .val (.tuple (encs l)), .val (.int p), s6, .un] := by
    refine e_filter (xs := l) (en := enc) isBox (fun t => stD (inn t, p + 1)) (by simp [itemsOf, encs_map]) (fun t ht => ?_) (len_small hc)
    cases t with
    | sign s => exact ⟨_, by simp [item, wipeE, enc, idx0, isBox]; rfl, by simp [wipeE]⟩
    | kern n => exact ⟨_, by simp [item, wipeE, enc, idx0, isBox]; rfl, by simp [wipeE]⟩
    | place n => exact ⟨_, by simp [item, wipeE, enc, idx0, isBox]; rfl, by simp [wipeE]⟩
    | space w a o b p => exact ⟨_, by simp [item, wipeE, enc, idx0, isBox]; rfl, by simp [wipeE]⟩
    | box k => exact ⟨_, by simp [item, wipeE, enc, idx0, idx1, isBox, inn, stD, SZ]; rfl, by simp [wipeE]⟩
  unfold bxs
  rw [List.map_map]
  exact e
theorem spaces4 (N : Nat) (l : List Th) (hc : cnts l ≤ 100) (s0 s1 s2 s3 s5 s6 : Sl) : (ev (callN P W N) f4_c0).1 [s0, s1, s2, s3, .val (.tuple (encs l)), s5, s6, .un] = .ok (.f (.list ((l.filter isSp).map enc))) [s0, s1, s2, s3, .val (.tuple (encs l)), s5, s6, .un] := by
  refine e_filter (xs := l) (en := enc) isSp enc (by simp [itemsOf, encs_map]) (fun t ht => ?_) (len_small hc)
  cases t with
  | sign s => exact ⟨_, by simp [item, wipeE, enc, idx0, isSp]; rfl, by simp [wipeE]⟩
  | kern n => exact ⟨_, by simp [item, wipeE, enc, idx0, isSp]; rfl, by simp [wipeE]⟩
  | place n => exact ⟨_, by simp [item, wipeE, enc, idx0, isSp]; rfl, by simp [wipeE]⟩
  | space w a o b p => exact ⟨_, by simp [item, wipeE, enc, idx0, isSp]; rfl, by simp [wipeE]⟩
  | box k => exact ⟨_, by simp [item, wipeE, enc, idx0, isSp]; rfl, by simp [wipeE]⟩
theorem turn4 {N : Nat} (hN : 2 ≤ N) (v : D) (st : List St) (l : List Th) (p : Nat) (c : Nat) (fs : List Th) (s4 s5 s6 : Sl) (h4 : Free s4) (h5 : Free s5) (h6 : Free s6) (hg : GoodSt (l, p)) (hb : c + cnts l ≤ 60) (hst : st.length ≤ 100) (hf : fs.length ≤ 100) :
    evB (callN P W N) W f4_b0 [.val v, .val (.list ((st ++ [(l, p)]).map stD)), .val (.int c), .val (.list (fs.map enc)), s4, s5, s6, .un] =
      .ok .nx [.val v, .val (.list ((st ++ bxs l p).map stD)), .val (.int ((c + l.length : Nat) : Int)), .val (.list ((fs ++ l.filter isSp).map enc)), .val (.tuple (encs l)), .val (.int p), .val (.list ((bxs l p).map stD)), .un] := by
  obtain ⟨d, h1, h2⟩ := id hg
  have h2' : d + p ≤ 3 := h2
  have h1' : wfs l d := h1
  have hl := len_cnts l
  have e1 : idx (.list ((st ++ [(l, p)]).map stD)) (.int (-1)) = some (.tuple [.tuple (encs l), .int p]) := by
    rw [List.map_append]
    exact idx_last _ _
  have e2 : cut ((st ++ [(l, p)]).map stD) none (some (-1)) = st.map stD := by
    rw [List.map_append]
    exact cut_pop _ _
  have e3 := fun s0 s1 s2 s3 s5 s6 => fits4 hN l h1' (by omega) s0 s1 s2 s3 s5 s6
  have e4 := fun s0 s1 s2 s3 s6 => boxes4 N l (by omega) s0 s1 s2 s3 s6 p
  have e5 := fun s0 s1 s2 s3 s5 s6 => spaces4 N l (by omega) s0 s1 s2 s3 s5 s6
  have e6 := all_true l
  have e7 := lay_st (bxs l p) (bxs_good hg)
  have e8 := ne_list _ e7.1 (by omega)
  have bl := bxs_len l p
  have e9 : bop .add (.list (st.map stD)) (.list ((bxs l p).map stD)) = some (.f (.list ((st ++ bxs l p).map stD))) := by
    rw [bop_lst, List.map_append]
    refine if_pos ?_
    rw [List.length_map, List.length_map]
    show _ ≤ 16777216
    omega
  have e10 : bop .add (.list (fs.map enc)) (.list ((l.filter isSp).map enc)) = some (.f (.list ((fs ++ l.filter isSp).map enc))) := by
    rw [bop_lst, List.map_append]
    refine if_pos ?_
    have := List.length_filter_le isSp l
    rw [List.length_map, List.length_map]
    show _ ≤ 16777216
    omega
  have n1 : ¬ (60 : Int) < (c : Int) + (l.length : Int) := by omega
  have n2 : ¬ (5 : Int) < (p : Int) := by omega
  obtain ⟨L, hL⟩ : ∃ L, L = (st ++ [(l, p)]).map stD := ⟨_, rfl⟩
  obtain ⟨S, hS⟩ : ∃ S, S = st.map stD := ⟨_, rfl⟩
  obtain ⟨B, hB⟩ : ∃ B, B = (bxs l p).map stD := ⟨_, rfl⟩
  obtain ⟨SB, hSB⟩ : ∃ SB, SB = (st ++ bxs l p).map stD := ⟨_, rfl⟩
  obtain ⟨F, hF⟩ : ∃ F, F = fs.map enc := ⟨_, rfl⟩
  obtain ⟨G, hG⟩ : ∃ G, G = (l.filter isSp).map enc := ⟨_, rfl⟩
  obtain ⟨FG, hFG⟩ : ∃ FG, FG = (fs ++ l.filter isSp).map enc := ⟨_, rfl⟩
  obtain ⟨A, hA⟩ : ∃ A, A = l.map fun _ => PyData.bool true := ⟨_, rfl⟩
  simp only [← hL, ← hS, ← hB, ← hSB, ← hF, ← hG, ← hFG, ← hA] at e1 e2 e3 e4 e5 e6 e8 e9 e10 ⊢
  by_cases hB0 : B = []
  · have e8' : cop .ne (.list B) (.list []) = some false := by rw [e8, hB0]; rfl
    simp [f4_b0, e1, e2, e3, e4, e5, e6, e8', e9, e10, n1, n2, sto_free h4, sto_free h5, sto_free h6, notDict, isTy, len_tup, encs_len, SZ]
  · have e8' : cop .ne (.list B) (.list []) = some true := by rw [e8]; simp [hB0]
    simp [f4_b0, e1, e2, e3, e4, e5, e6, e8', e9, e10, n1, n2, sto_free h4, sto_free h5, sto_free h6, notDict, isTy, len_tup, encs_len, SZ]
end K63

set_option linter.all false
set_option maxRecDepth 100000
set_option maxHeartbeats 4000000
/-! A drawn strip is a strip. -/
namespace K63
open PySem Ev
def GoodF (t : Th) : Prop := isSp t = true ∧ ∃ d, wf t d
theorem cond4 (N : Nat) (v : D) (st : List St) (hg : ∀ s ∈ st, GoodSt s) (s2 s3 s4 s5 s6 s7 : Sl) : (ev (callN P W N) (.cmp .ne (.var 1) (.lst .nil))).2 [.val v, .val (.list (st.map stD)), s2, s3, s4, s5, s6, s7] = .ok (decide (st ≠ [])) [.val v, .val (.list (st.map stD)), s2, s3, s4, s5, s6, s7] := by
  have e7 := lay_st st hg
  have e8 := ne_list _ e7.1 (by omega)
  have e9 : decide (st.map stD ≠ []) = decide (st ≠ []) := by cases st <;> rfl
  rw [e9] at e8
  obtain ⟨L, hL⟩ : ∃ L, L = st.map stD := ⟨_, rfl⟩
  rw [← hL] at e8 ⊢
  simp [e8, SZ]
theorem loop4 {N : Nat} (hN : 2 ≤ N) (v : D) : ∀ (m : Nat) (st : List St) (c : Nat) (fs : List Th) (s4 s5 s6 : Sl) (k : Nat), Free s4 → Free s5 → Free s6 → tot st + st.length ≤ m → (∀ s ∈ st, GoodSt s) → c + tot st ≤ 40 → m ≤ 90 → fs.length ≤ c → (∀ t ∈ fs, GoodF t) → m < k →
    ∃ (c' : Int) (gs : List Th) (t4 t5 t6 : Sl), whileN (fun r => (ev (callN P W N) (.cmp .ne (.var 1) (.lst .nil))).2 r) (fun r => evB (callN P W N) W f4_b0 r) k [.val v, .val (.list (st.map stD)), .val (.int c), .val (.list (fs.map enc)), s4, s5, s6, .un] = .ok .nx [.val v, .val (.list []), .val (.int c'), .val (.list (gs.map enc)), t4, t5, t6, .un] ∧ gs.length ≤ 40 ∧ ∀ t ∈ gs, GoodF t
  | m, st, c, fs, s4, s5, s6, k, h4, h5, h6, hm, hg, hb, hs, hf, hF, hk => by
    obtain ⟨k, rfl⟩ : ∃ j, k = j + 1 := ⟨k - 1, by omega⟩
    have ec := cond4 N v st hg (.val (.int c)) (.val (.list (fs.map enc))) s4 s5 s6 .un
    rcases List.eq_nil_or_concat st with rfl | ⟨st', ⟨l, p⟩, rfl⟩
    · exact ⟨c, fs, s4, s5, s6, whl_end ec, by omega, hF⟩
    · rw [List.concat_eq_append] at *
      have hgl : GoodSt (l, p) := hg _ (List.mem_append_right _ List.mem_cons_self)
      have ht := tot_app st' [(l, p)]
      have ht2 : tot [(l, p)] = cnts l + 0 := rfl
      have ht3 := bxs_tot p l
      have ht4 := tot_app st' (bxs l p)
      have bl := bxs_len l p
      rw [List.length_append, List.length_singleton] at hm
      have et := turn4 hN v st' l p c fs s4 s5 s6 h4 h5 h6 hgl (by omega) (by omega) (by omega)
      obtain ⟨m, rfl⟩ : ∃ j, m = j + 1 := ⟨m - 1, by omega⟩
      have hfl := List.length_filter_le isSp l
      have ed : decide (st' ++ [(l, p)] ≠ []) = true := by simp
      rw [ed] at ec
      obtain ⟨c', gs, t4, t5, t6, e, r1, r2⟩ := loop4 hN v m (st' ++ bxs l p) (c + l.length) (fs ++ l.filter isSp) (.val (.tuple (encs l))) (.val (.int p)) (.val (.list ((bxs l p).map stD))) k (.inr ⟨_, rfl⟩) (.inr ⟨_, rfl⟩) (.inr ⟨_, rfl⟩)
        (by rw [List.length_append]; omega) (fun s hs => by
          rcases List.mem_append.mp hs with h | h
          · exact hg s (List.mem_append_left _ h)
          · exact bxs_good hgl s h) (by omega) (by omega) (by rw [List.length_append]; omega) (fun t ht => by
          rcases List.mem_append.mp ht with h | h
          · exact hF t h
          · obtain ⟨d, h1, _⟩ := hgl
            exact ⟨(List.mem_filter.mp h).2, d, wfs_le l d h1 t (List.mem_filter.mp h).1⟩) (by omega)
      exact ⟨c', gs, t4, t5, t6, (whl_nx ec et).trans e, r1, r2⟩
theorem found4 {N : Nat} (hN : 3 ≤ N) (l : List Th) (hw : wfs l 3) (hc : cnts l ≤ 40) : ∃ gs : List Th, callN P W N 4 [.val (.tuple (encs l))] = .ok false (.list (gs.map enc)) [] ∧ gs.length ≤ 40 ∧ ∀ t ∈ gs, GoodF t := by
  obtain ⟨M, rfl⟩ : ∃ M, N = M + 1 := ⟨N - 1, by omega⟩
  have ht : tot [(l, 0)] = cnts l + 0 := rfl
  obtain ⟨c', gs, t4, t5, t6, e, r1, r2⟩ := loop4 (N := M) (by omega) (.tuple (encs l)) 41 [(l, 0)] 0 [] .un .un .un W (.inl rfl) (.inl rfl) (.inl rfl) (by rw [ht, List.length_singleton]; omega) (fun s hs => by
    rw [List.mem_singleton] at hs
    subst hs
    exact ⟨3, hw, Nat.le_refl _⟩) (by omega) (by decide) (Nat.le_refl _) (fun t ht => nomatch ht) (by decide)
  have e2 : evS (callN P W M) W f4_l0 [.val (.tuple (encs l)), .val (.list [.tuple [.tuple (encs l), .int 0]]), .val (.int 0), .val (.list []), .un, .un, .un, .un] = .ok .nx [.val (.tuple (encs l)), .val (.list []), .val (.int c'), .val (.list (gs.map enc)), t4, t5, t6, .un] := by
    rw [show f4_l0 = IS.whl (.cmp .ne (.var 1) (.lst .nil)) f4_b0 from rfl, s_whl]
    exact e
  refine ⟨gs, ?_, r1, r2⟩
  rw [step (df := f4) rfl rfl]
  obtain ⟨L, hL⟩ : ∃ L, L = encs l := ⟨_, rfl⟩
  obtain ⟨G, hG⟩ : ∃ G, G = gs.map enc := ⟨_, rfl⟩
  rw [← hL, ← hG] at e2 ⊢
  simp [f4, e2, SZ]
theorem sum5 {N : Nat} (hN : 1 ≤ N) (up : Bool) (o : Int) (gs : List Th) (hl : gs.length ≤ 40) (hg : ∀ t ∈ gs, GoodF t) : ∃ s : Int, s ≤ 300 ∧ callN P W N 5 [.val (.list (gs.map enc)), .val (.int (wy up)), .val (.int o)] = .ok false (.int s) [] := by
  obtain ⟨M, rfl⟩ : ∃ M, N = M + 1 := ⟨N - 1, by omega⟩
  obtain ⟨q, hq⟩ : ∃ q : Th → Bool, q = fun t => decide (od up t = o) := ⟨_, rfl⟩
  have e : (ev (callN P W M) f5_c0).1 [.val (.list (gs.map enc)), .val (.int (wy up)), .val (.int o), .un] = .ok (.f (.list ((gs.filter q).map fun t => .int (am up t)))) [.val (.list (gs.map enc)), .val (.int (wy up)), .val (.int o), .un] := by
    refine e_filter (xs := gs) (en := enc) q (fun t => .int (am up t)) (by simp [itemsOf]) (fun t ht => ?_) (by show _ ≤ 16777216; omega)
    have hs := (hg t ht).1
    cases t with
    | space w a o' b p =>
      have i1 := idxw up w a o' b p (.str "space")
      have i2 := idxo up w a o' b p (.str "space")
      by_cases h : od up (.space w a o' b p) = o
      · exact ⟨_, by simp [item, wipeE, enc, i1, i2, hq, h]; rfl, by simp [wipeE]⟩
      · exact ⟨_, by simp [item, wipeE, enc, i1, i2, hq, h]; rfl, by simp [wipeE]⟩
    | _ => exact nomatch hs
  have hn : ∀ x ∈ (gs.filter q).map (am up), 0 ≤ x ∧ x ≤ 7 := by
    intro x hx
    obtain ⟨t, ht, rfl⟩ := List.mem_map.mp hx
    obtain ⟨d, hw⟩ := (hg t (List.mem_filter.mp ht).1).2
    have := od_nn (up := up) hw
    exact ⟨this.2.1, this.2.2.1⟩
  have hs := sum_nn hn
  have hl2 := List.length_filter_le q gs
  rw [List.length_map] at hs
  refine ⟨((gs.filter q).map (am up)).sum, by omega, ?_⟩
  have e3 := sum_ints ((gs.filter q).map (am up))
  rw [List.map_map] at e3
  have e4 : (gs.filter q).map (PyData.int ∘ am up) = (gs.filter q).map fun t => .int (am up t) := rfl
  rw [e4] at e3
  rw [step (df := f5) rfl rfl]
  obtain ⟨G, hG⟩ : ∃ G, G = gs.map enc := ⟨_, rfl⟩
  obtain ⟨F, hF⟩ : ∃ F, F = (gs.filter q).map fun t => PyData.int (am up t) := ⟨_, rfl⟩
  rw [← hG, ← hF] at e
  rw [← hF] at e3
  rw [← hG]
  simp [f5, e, e3]
theorem all6 {N : Nat} (hN : 1 ≤ N) (v : D) (gs : List Th) (hl : gs.length ≤ 40) (hg : ∀ t ∈ gs, GoodF t) : (ev (callN P W N) f6_c0).1 [.val v, .val (.list (gs.map enc)), .un, .un] = .ok (.f (.list (([true, false] : List Bool).flatMap fun _ => ([0, 1, 2] : List Int).map fun _ => .bool true))) [.val v, .val (.list (gs.map enc)), .un, .un] := by
  obtain ⟨G, hG⟩ : ∃ G, G = gs.map enc := ⟨_, rfl⟩
  have e5 : ∀ up o, ∃ s : Int, s ≤ 300 ∧ callN P W N 5 [.val (.list G), .val (.int (wy up)), .val (.int o)] = .ok false (.int s) [] := fun up o => hG ▸ sum5 hN up o gs hl hg
  rw [← hG]
  refine e_cm2 (xs := ([true, false] : List Bool)) (en := fun up => .int (wy up)) (fun _ => ([0, 1, 2] : List Int).map fun _ => .bool true) (by simp [itemsOf, SZ, wy]) (fun up hup => ?_) (by decide)
  obtain ⟨r', e, hr⟩ := compL_flat (f := fun z r6 => item (callN P W N) (.cmp .le (.call 5 "sum_with" (.cons (.var 1) (.cons (.var 2) (.cons (.var 3) .nil)))) (.glob "SUM" (.int 300))) (.n 3 false) .no [3] z (wipeE [3] r6)) (vs := [3]) (w := [.val v, .val (.list G), .val (.int (wy up)), .un]) (en := PyData.int) (g := fun _ => [PyData.bool true]) ([0, 1, 2] : List Int) [.val v, .val (.list G), .val (.int (wy up)), .un] (by simp [wipeE]) fun o ho r hr => by
      obtain ⟨s, hs, e⟩ := e5 up o
      rw [hr]
      exact ⟨_, by simp [item, e, hs]; rfl, by simp [wipeE]⟩
  refine ⟨r', ?_, ?_⟩
  · have e2 : compL (fun z r6 => item (callN P W N) (.cmp .le (.call 5 "sum_with" (.cons (.var 1) (.cons (.var 2) (.cons (.var 3) .nil)))) (.glob "SUM" (.int 300))) (.n 3 false) .no [3] z (wipeE [3] r6)) [.int 0, .int 1, .int 2] [.val v, .val (.list G), .val (.int (wy up)), .un] = .ok [.bool true, .bool true, .bool true] r' := e
    simp [item2, wipeE, itemsOf, SZ]
    exact e2
  · have h2 : r'.length = 4 := by
      have := congrArg List.length hr
      rw [wipeE_len] at this
      exact this
    have h0 := congrArg (fun q : Ev.Env => q[0]?) hr
    have h1 := congrArg (fun q : Ev.Env => q[1]?) hr
    simp only [wipeE_get] at h0 h1
    apply List.ext_getElem?
    intro j
    simp only [wipeE_get]
    match j with
    | 0 => simpa using h0
    | 1 => simpa using h1
    | 2 => simp [h2]
    | 3 => simp [h2]
    | j + 4 => simp [h2]
theorem strip6 {N : Nat} (hN : 4 ≤ N) (l : List Th) (hw : wfs l 3) (hc : cnts l ≤ 40) : callN P W N 6 [.val (.tuple (encs l))] = .ok false (.bool true) [] := by
  obtain ⟨M, rfl⟩ : ∃ M, N = M + 1 := ⟨N - 1, by omega⟩
  obtain ⟨gs, e1, h1, h2⟩ := found4 (N := M) (by omega) l hw hc
  have e2 := all6 (N := M) (by omega) (.tuple (encs l)) gs h1 h2
  obtain ⟨L, hL⟩ : ∃ L, L = encs l := ⟨_, rfl⟩
  obtain ⟨G, hG⟩ : ∃ G, G = gs.map enc := ⟨_, rfl⟩
  rw [← hL, ← hG] at e1 e2
  rw [← hL]
  have e3 : b1 .all (.list (([true, false] : List Bool).flatMap fun _ => ([0, 1, 2] : List Int).map fun _ => .bool true)) = some (.d (.bool true)) := by kernel_rfl
  obtain ⟨A, hA⟩ : ∃ A, A = ([true, false] : List Bool).flatMap fun _ => ([0, 1, 2] : List Int).map fun _ => PyData.bool true := ⟨_, rfl⟩
  rw [← hA] at e2 e3
  have e4 : isOf (.list G) .none = some false := rfl
  rw [step (df := f6) rfl rfl]
  simp [f6, e1, e2, e3, e4]
theorem need7 {N : Nat} (hN : 5 ≤ N) (l : List Th) (hw : wfs l 3) (hc : cnts l ≤ 40) : callN P W N 7 [.val (.tuple (encs l))] = .ok false .none [] := by
  obtain ⟨M, rfl⟩ : ∃ M, N = M + 1 := ⟨N - 1, by omega⟩
  have e1 := strip6 (N := M) (by omega) l hw hc
  rw [step (df := f7) rfl rfl]
  simp [f7, e1]
theorem need8 {N : Nat} (hN : 2 ≤ N) (w : Int) (h1 : -1000000000 ≤ w) (h2 : w ≤ 1000000000) : callN P W N 8 [.val (.int w)] = .ok false .none [] := by
  obtain ⟨M, rfl⟩ : ∃ M, N = M + 1 := ⟨N - 1, by omega⟩
  have e1 := whole0 (N := M) (by omega) w (-1000000000) 1000000000 h1 h2
  rw [step (df := f8) rfl rfl]
  simp [f8, e1]
end K63

set_option linter.all false
set_option maxRecDepth 100000
set_option maxHeartbeats 4000000
/-! The widths that are tried. -/
namespace K63
open PySem Ev
mutual
theorem wd_bd : ∀ (t : Th) (d : Nat), wf t d → -31 * (cnt t : Int) ≤ wd t ∧ wd t ≤ 31 * (cnt t : Int)
  | .sign s, d, h => by simp [wd, cnt]
  | .kern n, d, h => by
    obtain ⟨h1, h2⟩ := h
    simp [wd, cnt]
    omega
  | .place n, d, h => by simp [wd, cnt]
  | .space w a o b p, d, h => by
    obtain ⟨⟨h1, h2⟩, _⟩ := h
    simp [wd, cnt]
    omega
  | .box l, d, h => by
    have := wds_bd l (d - 1) h.2
    have e1 : wd (.box l) = wds l := rfl
    have e2 : cnt (.box l) = cnts l + 1 := rfl
    rw [e1, e2]
    omega
theorem wds_bd : ∀ (l : List Th) (d : Nat), wfs l d → -31 * (cnts l : Int) ≤ wds l ∧ wds l ≤ 31 * (cnts l : Int)
  | [], d, h => by simp [wds, cnts]
  | t :: l, d, h => by
    have h1 := wd_bd t d h.1
    have h2 := wds_bd l d h.2
    have e1 : wds (t :: l) = wd t + wds l := rfl
    have e2 : cnts (t :: l) = cnt t + cnts l := rfl
    rw [e1, e2]
    omega
end
theorem widths34 {N : Nat} (hN : 4 ≤ N) {c : D} (hk : Cup c) (l : List Th) (hw : wfs l 2) (hc : cnts l ≤ 40) : ∃ (ws : List Int) (c' : D), callN P W N 36 [.bor c, .val (.tuple (encs l))] = .ok true (.list (ws.map PyData.int)) [c'] ∧ Cup c' ∧ ws.length ≤ 9 ∧ ∀ w ∈ ws, -10000 ≤ w ∧ w ≤ 10000 := by
  obtain ⟨M, rfl⟩ : ∃ M, N = M + 1 := ⟨N - 1, by omega⟩
  obtain ⟨j, c', ej, j0, j1, k0⟩ := roll_ge (N := M) (by omega) hk (k := 40) (by decide) (by decide)
  have e1 := law_wide 2 M (by omega) l hw (by omega)
  have e2 : callN P W M 30 [.val (.tuple (encs l)), .val (.int 2)] = _ := rules_ok (N := M) (by omega) true l (by omega)
  have e3 : callN P W M 30 [.val (.tuple (encs l)), .val (.int 4)] = _ := rules_ok (N := M) (by omega) false l (by omega)
  have s1 := sum_ints (ru true l)
  have s2 := sum_ints (ru false l)
  have b0 := wds_bd l 2 hw
  have b1' := ru_sum (up := true) hw (by omega)
  have b2' := ru_sum (up := false) hw (by omega)
  obtain ⟨L, hL⟩ : ∃ L, L = encs l := ⟨_, rfl⟩
  obtain ⟨A, hA⟩ : ∃ A, A = (ru true l).map PyData.int := ⟨_, rfl⟩
  obtain ⟨B, hB⟩ : ∃ B, B = (ru false l).map PyData.int := ⟨_, rfl⟩
  rw [← hL, ← hA] at e2
  rw [← hL, ← hB] at e3
  rw [← hL] at e1 ⊢
  rw [← hA] at s1
  rw [← hB] at s2
  have hm : mulOk 3 (ru true l).sum = true := mulOk_l (by decide) (by decide)
  refine ⟨[wds l, wds l + 1, wds l + j, wds l - j, wds l - (ru false l).sum, wds l - (ru false l).sum - 1, wds l + (ru true l).sum, wds l + 3 * (ru true l).sum + 1, wds l - 1], c', ?_, k0, Nat.le_refl _, fun w hwm => ?_⟩
  · rw [step (df := f36) rfl rfl]
    simp [f36, e1, e2, e3, ej, s1, s2, hm, SZ]
  · simp only [List.mem_cons, List.not_mem_nil, or_false] at hwm
    omega
/-! what is due may be compared -/
theorem lay_ints : ∀ l : List Int, PyData.canLayAll0 (l.map PyData.int) = true ∧ PyData.depthAll (l.map PyData.int) ≤ 1
  | [] => ⟨rfl, Nat.zero_le _⟩
  | i :: l => by
    obtain ⟨a, b⟩ := lay_ints l
    refine ⟨?_, ?_⟩
    · show ((PyData.int i).canLay0 && PyData.canLayAll0 (l.map PyData.int)) = true
      rw [a]
      simp [PyData.canLay0]
    · show max (PyData.depth (.int i)) (PyData.depthAll (l.map PyData.int)) ≤ 1
      have : PyData.depth (.int i) ≤ 1 := by simp [PyData.depth]
      omega
theorem word_cases (l : List Th) (w : Int) : wordM l w = "" ∨ wordM l w = "loose" ∨ wordM l w = "tight" := by
  unfold wordM
  split
  · exact .inl rfl
  · split
    · exact .inl rfl
    · split
      · exact .inr (.inl rfl)
      · exact .inr (.inr rfl)
theorem due_ne (l : List Th) (w : Int) : cop .ne (dueD l w) (dueD l w) = some false := by
  have h : (dueD l w).canLay0 = true ∧ PyData.depth (dueD l w) ≤ 10 := by
    unfold dueD
    have hk : ∀ s : Str, s = "loose" ∨ s = "tight" ∨ s = "set" → PyData.strOk s = true := fun s hs => by
      rcases hs with rfl | rfl | rfl <;> decide +kernel
    by_cases hz : wordM l w = ""
    · rw [if_pos hz]
      obtain ⟨a, b⟩ := lay_ints (lt l w 0 l ++ [w])
      obtain ⟨I, hI⟩ : ∃ I, I = (lt l w 0 l ++ [w]).map PyData.int := ⟨_, rfl⟩
      rw [← hI] at a b ⊢
      refine ⟨?_, ?_⟩
      · simp [PyData.canLay0, PyData.canLayAll0, a, hk "set" (.inr (.inr rfl))]
      · simp [PyData.depth, PyData.depthAll]
        omega
    · rw [if_neg hz]
      have hs : PyData.strOk (wordM l w) = true := by
        rcases word_cases l w with h | h | h
        · exact absurd h hz
        · exact hk _ (.inl h)
        · exact hk _ (.inr (.inl h))
      refine ⟨?_, ?_⟩
      · simp [PyData.canLay0, PyData.canLayAll0, hs]
      · simp [PyData.depth, PyData.depthAll]
  have hq := SeqAt.eqv_refl _ h.1
  have hs : SeqAt.shaped (dueD l w) = true := by
    unfold SeqAt.shaped
    rw [Bool.and_eq_true]
    exact ⟨h.1, decide_eq_true (by omega)⟩
  show (if eqOk _ _ = true then some (!PyData.eqv (dueD l w) (dueD l w)) else none) = _
  rw [if_pos (by unfold eqOk; rw [hs]; simp), hq]
  rfl
end K63

set_option linter.all false
set_option maxRecDepth 100000
set_option maxHeartbeats 4000000
/-! A part in a box: plain. -/
namespace K63
open PySem Ev
/-- leaves, running -/
def rn (g : Th → Int) (ex S : Int) : Int → Int → List Th → List Int
  | _, _, [] => []
  | x, y, t :: m => lv t (x + ex * y / S) ++ rn g ex S (x + wd t) (y + g t) m
theorem rn_app (g : Th → Int) (ex S : Int) : ∀ (m k : List Th) (x y : Int), rn g ex S x y (m ++ k) = rn g ex S x y m ++ rn g ex S (x + wds m) (y + (m.map g).sum) k
  | [], k, x, y => by
    show rn g ex S x y k = rn g ex S (x + 0) (y + 0) k
    rw [Int.add_zero, Int.add_zero]
  | t :: m, k, x, y => by
    show lv t _ ++ rn g ex S (x + wd t) (y + g t) (m ++ k) = lv t _ ++ rn g ex S (x + wd t) (y + g t) m ++ rn g ex S (x + (wd t + wds m)) (y + (g t + (m.map g).sum)) k
    rw [rn_app g ex S m k, List.append_assoc, Int.add_assoc, Int.add_assoc]
def den (s : Int) : Int := if s > 1 then s else 1
def gO (up : Bool) (l : List Th) : Th → Int := ruT up (tp up l)
theorem lt_rn (l : List Th) (w : Int) : ∀ (m a : List Th), l = a ++ m → lt l w a.length m = rn (gO (upOf (w - wds l)) l) (w - wds l) (den (ru (upOf (w - wds l)) l).sum) (wds a) ((a.map (gO (upOf (w - wds l)) l)).sum) m
  | [], a, h => rfl
  | t :: m, a, h => by
    have h2 : l = (a ++ [t]) ++ m := by rw [h, List.append_assoc]; rfl
    have ih := lt_rn l w m (a ++ [t]) h2
    rw [List.length_append, List.length_singleton, wds_app] at ih
    have e1 : topAt l w a.length = wds a + (w - wds l) * (a.map (gO (upOf (w - wds l)) l)).sum / den (ru (upOf (w - wds l)) l).sum := by
      unfold topAt den
      have t1 : l.take a.length = a := by rw [h, List.take_left]
      have t2 : (ru (upOf (w - wds l)) l).take a.length = a.map (gO (upOf (w - wds l)) l) := by
        show (l.map (gO (upOf (w - wds l)) l)).take a.length = _
        rw [← List.map_take, t1]
      rw [t1, t2]
    show lv t (topAt l w a.length) ++ lt l w (a.length + 1) m = _
    rw [ih, e1]
    show _ = lv t _ ++ rn _ _ _ (wds a + wd t) ((a.map _).sum + _) m
    have e2 : wds [t] = wd t := by show wd t + 0 = wd t; rw [Int.add_zero]
    rw [e2, List.map_append, List.sum_append]
    have e3 : ([t].map (gO (upOf (w - wds l)) l)).sum = gO (upOf (w - wds l)) l t := by simp
    rw [e3]
theorem lt_rn0 (l : List Th) (w : Int) : lt l w 0 l = rn (gO (upOf (w - wds l)) l) (w - wds l) (den (ru (upOf (w - wds l)) l).sum) 0 0 l := lt_rn l w l [] rfl
/-! the top order -/
theorem tp_spec {up : Bool} {l : List Th} {d : Nat} (h : wfs l d) : (tp up l = 0 ∨ tp up l ∈ ords up l) ∧ 0 ≤ tp up l ∧ ∀ x ∈ ords up l, x ≤ tp up l := by
  by_cases h0 : ords up l = []
  · have e : tp up l = 0 := by unfold tp; rw [h0]; rfl
    rw [e, h0]
    exact ⟨.inl rfl, Int.le_refl _, fun x hx => nomatch hx⟩
  · have e := tp_eq h h0
    obtain ⟨a, b⟩ := topL_spec _ h0
    rw [e]
    exact ⟨.inr a, ords_nn h _ a, b⟩
theorem tp_uniq {up : Bool} {l : List Th} {d : Nat} (h : wfs l d) (m : Int) (h1 : m = 0 ∨ m ∈ ords up l) (h2 : 0 ≤ m) (h3 : ∀ x ∈ ords up l, x ≤ m) : tp up l = m := by
  obtain ⟨a, b, c⟩ := tp_spec (up := up) h
  apply Int.le_antisymm
  · rcases a with a | a
    · omega
    · exact h3 _ a
  · rcases h1 with a | a
    · omega
    · exact c _ a
theorem ords_app (up : Bool) (l k : List Th) : ords up (l ++ k) = ords up l ++ ords up k := by
  unfold ords
  rw [List.filter_append, List.map_append]
theorem ords_mem {up : Bool} {l : List Th} {x : Int} (h : x ∈ ords up l) : ∃ t ∈ l, isSp t = true ∧ 0 < am up t ∧ od up t = x := by
  obtain ⟨t, ht, e⟩ := List.mem_map.mp h
  obtain ⟨ht1, ht2⟩ := List.mem_filter.mp ht
  unfold isPos at ht2
  simp only [Bool.and_eq_true, decide_eq_true_eq] at ht2
  exact ⟨t, ht1, ht2.1, ht2.2, e⟩
theorem mem_ords {up : Bool} {l : List Th} {t : Th} (h : t ∈ l) (h1 : isSp t = true) (h2 : 0 < am up t) : od up t ∈ ords up l :=
  List.mem_map.mpr ⟨t, List.mem_filter.mpr ⟨h, by unfold isPos; simp [h1, h2]⟩, rfl⟩
theorem g_nn {up : Bool} {l : List Th} {t : Th} {d : Nat} (h : wf t d) : 0 ≤ gO up l t ∧ gO up l t ≤ 7 := by
  have hn := od_nn (up := up) h
  unfold gO ruT
  split
  · exact ⟨hn.2.1, hn.2.2.1⟩
  · exact ⟨Int.le_refl _, by decide⟩
theorem g_pos {up : Bool} {l : List Th} {t : Th} (h : 0 < gO up l t) : isSp t = true := by
  unfold gO ruT at h
  split at h
  · rename_i h1
    exact h1.1
  · omega
theorem zero_all : ∀ {l : List Int}, (∀ x ∈ l, 0 ≤ x ∧ x ≤ 7) → l.sum = 0 → ∀ x ∈ l, x = 0 := fun hx hs x h => by
  have h1 := sum_pos_mem hx x h
  have h2 := hx x h
  omega
def pk (a b c : List Th) : List Th := a ++ (.box b :: c)
theorem wds_pk (a b c : List Th) : wds (pk a b c) = wds (a ++ (b ++ c)) := by
  unfold pk
  rw [wds_app, wds_app, wds_app]
  rfl
section
variable {up : Bool} {a b c : List Th} {d : Nat}
theorem wfs_mem {l : List Th} (h : ∀ t ∈ l, wf t d) : wfs l d := by
  induction l with
  | nil => trivial
  | cons t l ih => exact ⟨h t List.mem_cons_self, ih fun x hx => h x (List.mem_cons_of_mem _ hx)⟩
/-- no part of the sum: the order stays -/
theorem tp_pk (h : wfs (a ++ (b ++ c)) d) (hp : wfs (pk a b c) (d + 1)) (hz : (b.map (gO up (a ++ (b ++ c)))).sum = 0) : tp up (pk a b c) = tp up (a ++ (b ++ c)) := by
  have hb : ∀ t ∈ b, gO up (a ++ (b ++ c)) t = 0 := fun t ht => by
    refine zero_all (l := b.map (gO up (a ++ (b ++ c)))) (fun x hx => ?_) hz _ (List.mem_map.mpr ⟨t, ht, rfl⟩)
    obtain ⟨t, ht, rfl⟩ := List.mem_map.mp hx
    exact g_nn (wfs_le _ d h t (List.mem_append_right _ (List.mem_append_left _ ht)))
  obtain ⟨p, q, r⟩ := tp_spec (up := up) h
  have eo : ords up (pk a b c) = ords up a ++ ords up c := by
    unfold pk
    rw [ords_app]
    rfl
  have eo2 : ords up (a ++ (b ++ c)) = ords up a ++ (ords up b ++ ords up c) := by rw [ords_app, ords_app]
  refine tp_uniq hp _ ?_ q fun x hx => ?_
  · rcases p with p | p
    · exact .inl p
    · rw [eo]
      rw [eo2] at p
      rcases List.mem_append.mp p with p | p
      · exact .inr (List.mem_append_left _ p)
      · rcases List.mem_append.mp p with p | p
        · exfalso
          obtain ⟨t, ht, h1, h2, h3⟩ := ords_mem p
          have := hb t ht
          unfold gO ruT at this
          rw [if_pos ⟨h1, h3⟩] at this
          omega
        · exact .inr (List.mem_append_right _ p)
  · rw [eo] at hx
    refine r x ?_
    rw [eo2]
    rcases List.mem_append.mp hx with hx | hx
    · exact List.mem_append_left _ hx
    · exact List.mem_append_right _ (List.mem_append_right _ hx)
theorem sum_pk (h : wfs (a ++ (b ++ c)) d) (hp : wfs (pk a b c) (d + 1)) (hz : (b.map (gO up (a ++ (b ++ c)))).sum = 0) : (ru up (pk a b c)).sum = (ru up (a ++ (b ++ c))).sum := by
  have e := tp_pk h hp hz
  show ((pk a b c).map (ruT up (tp up (pk a b c)))).sum = ((a ++ (b ++ c)).map (gO up (a ++ (b ++ c)))).sum
  rw [e]
  show ((pk a b c).map (gO up (a ++ (b ++ c)))).sum = _
  unfold pk
  rw [List.map_append, List.sum_append, List.map_append, List.sum_append, List.map_append, List.sum_append, hz, List.map_cons, List.sum_cons]
  have : gO up (a ++ (b ++ c)) (.box b) = 0 := rfl
  rw [this]
theorem soft_mem {l : List Th} : l.filter soft ≠ [] ↔ ∃ t ∈ l, isSp t = true ∧ 0 < am false t ∧ 0 < od false t := by
  constructor
  · intro h
    obtain ⟨t, r, e⟩ := List.exists_cons_of_ne_nil h
    have ht : t ∈ l.filter soft := e ▸ List.mem_cons_self
    obtain ⟨h1, h2⟩ := List.mem_filter.mp ht
    unfold soft at h2
    simp only [Bool.and_eq_true, decide_eq_true_eq] at h2
    exact ⟨t, h1, h2⟩
  · intro ⟨t, h1, h2, h3, h4⟩ z
    have : t ∈ l.filter soft := List.mem_filter.mpr ⟨h1, by unfold soft; simp [h2, h3, h4]⟩
    rw [z] at this
    exact nomatch this
theorem soft_pk (h : wfs (a ++ (b ++ c)) d) (hp : wfs (pk a b c) (d + 1)) (hz : (b.map (gO false (a ++ (b ++ c)))).sum = 0) : ((pk a b c).filter soft ≠ [] ↔ (a ++ (b ++ c)).filter soft ≠ []) := by
  rw [soft_mem, soft_mem]
  constructor
  · intro ⟨t, h1, h2⟩
    unfold pk at h1
    rcases List.mem_append.mp h1 with h1 | h1
    · exact ⟨t, List.mem_append_left _ h1, h2⟩
    · rcases List.mem_cons.mp h1 with rfl | h1
      · exact nomatch h2.1
      · exact ⟨t, List.mem_append_right _ (List.mem_append_right _ h1), h2⟩
  · intro ⟨t, h1, h2, h3, h4⟩
    have e := tp_pk h hp hz
    obtain ⟨p, q, r⟩ := tp_spec (up := false) h
    have h5 := r _ (mem_ords h1 h2 h3)
    obtain ⟨p', q', r'⟩ := tp_spec (up := false) hp
    rw [e] at p'
    rcases p' with p' | p'
    · omega
    · obtain ⟨t', k1, k2, k3, k4⟩ := ords_mem p'
      exact ⟨t', k1, k2, k3, by omega⟩
theorem word_pk (h : wfs (a ++ (b ++ c)) d) (hp : wfs (pk a b c) (d + 1)) (hz : ∀ up, (b.map (gO up (a ++ (b ++ c)))).sum = 0) (w : Int) : wordM (pk a b c) w = wordM (a ++ (b ++ c)) w := by
  unfold wordM
  rw [wds_pk, sum_pk h hp (hz _)]
  simp only [soft_pk h hp (hz false)]
theorem rn_zero (g : Th → Int) (ex S : Int) : ∀ (b : List Th) (x y : Int), (∀ t ∈ b, g t = 0) → rn g ex S x y b = lvs b (x + ex * y / S)
  | [], x, y, h => rfl
  | t :: b, x, y, h => by
    show lv t _ ++ rn g ex S (x + wd t) (y + g t) b = lv t _ ++ lvs b (x + ex * y / S + wd t)
    rw [h t List.mem_cons_self, Int.add_zero, rn_zero g ex S b _ y fun z hz => h z (List.mem_cons_of_mem _ hz)]
    congr 2
    omega
theorem lt_pk (h : wfs (a ++ (b ++ c)) d) (hp : wfs (pk a b c) (d + 1)) (hz : ∀ up, (b.map (gO up (a ++ (b ++ c)))).sum = 0) (w : Int) : lt (pk a b c) w 0 (pk a b c) = lt (a ++ (b ++ c)) w 0 (a ++ (b ++ c)) := by
  rw [lt_rn0, lt_rn0, wds_pk, sum_pk h hp (hz _)]
  have eg : gO (upOf (w - wds (a ++ (b ++ c)))) (pk a b c) = gO (upOf (w - wds (a ++ (b ++ c)))) (a ++ (b ++ c)) := by
    unfold gO
    rw [tp_pk h hp (hz _)]
  rw [eg]
  obtain ⟨g, hg⟩ : ∃ g, g = gO (upOf (w - wds (a ++ (b ++ c)))) (a ++ (b ++ c)) := ⟨_, rfl⟩
  have hz' := hz (upOf (w - wds (a ++ (b ++ c))))
  have hb : ∀ t ∈ b, g t = 0 := fun t ht => by
    rw [hg]
    refine zero_all (l := b.map (gO (upOf (w - wds (a ++ (b ++ c)))) (a ++ (b ++ c)))) (fun x hx => ?_) hz' _ (List.mem_map.mpr ⟨t, ht, rfl⟩)
    obtain ⟨t, ht, rfl⟩ := List.mem_map.mp hx
    exact g_nn (wfs_le _ d h t (List.mem_append_right _ (List.mem_append_left _ ht)))
  rw [← hg] at hz' ⊢
  obtain ⟨ex, hex⟩ : ∃ ex, ex = w - wds (a ++ (b ++ c)) := ⟨_, rfl⟩
  rw [← hex]
  generalize den (ru (upOf ex) (a ++ (b ++ c))).sum = S
  unfold pk
  rw [rn_app, rn_app, rn_app, rn_zero g ex S b _ _ hb, hz', Int.add_zero]
  have hgb : g (.box b) = 0 := by rw [hg]; rfl
  show _ ++ (lvs b _ ++ rn g ex S (_ + wds b) (_ + g (.box b)) c) = _
  rw [hgb, Int.add_zero]
theorem due_pk (h : wfs (a ++ (b ++ c)) d) (hp : wfs (pk a b c) (d + 1)) (hz : ∀ up, (b.map (gO up (a ++ (b ++ c)))).sum = 0) (w : Int) : dueD (pk a b c) w = dueD (a ++ (b ++ c)) w := by
  unfold dueD
  rw [word_pk h hp hz, lt_pk h hp hz]
end
end K63

set_option linter.all false
set_option maxRecDepth 100000
set_option maxHeartbeats 4000000
/-! A part in a box: where it shows. -/
namespace K63
open PySem Ev
mutual
def nl : Th → Nat
  | .box l => nls l
  | _ => 1
def nls : List Th → Nat
  | [] => 0
  | t :: l => nl t + nls l
end
mutual
theorem lv_nl : ∀ (t : Th) (a : Int), (lv t a).length = nl t
  | .box l, a => lvs_nl l a
  | .sign _, a => rfl
  | .kern _, a => rfl
  | .place _, a => rfl
  | .space _ _ _ _ _, a => rfl
theorem lvs_nl : ∀ (l : List Th) (a : Int), (lvs l a).length = nls l
  | [], a => rfl
  | t :: l, a => by
    show (lv t a ++ lvs l (a + wd t)).length = nl t + nls l
    rw [List.length_append, lv_nl t, lvs_nl l]
end
theorem nls_app : ∀ a b : List Th, nls (a ++ b) = nls a + nls b
  | [], b => by rw [List.nil_append]; show _ = 0 + _; omega
  | t :: a, b => by
    show nl t + nls (a ++ b) = nl t + nls a + nls b
    rw [nls_app a b]
    omega
theorem rn_nl (g : Th → Int) (ex S : Int) : ∀ (l : List Th) (x y : Int), (rn g ex S x y l).length = nls l
  | [], x, y => rfl
  | t :: l, x, y => by
    show (lv t _ ++ rn g ex S _ _ l).length = nl t + nls l
    rw [List.length_append, lv_nl, rn_nl g ex S l]
mutual
theorem lv_hd : ∀ (t : Th) (a : Int), (lv t a = [] ∧ wd t = 0 ∧ isSp t = false) ∨ ∃ r, lv t a = a :: r
  | .box l, a => by
    rcases lvs_hd l a with ⟨h1, h2⟩ | h
    · exact .inl ⟨h1, h2, rfl⟩
    · exact .inr h
  | .sign _, a => .inr ⟨[], rfl⟩
  | .kern _, a => .inr ⟨[], rfl⟩
  | .place _, a => .inr ⟨[], rfl⟩
  | .space _ _ _ _ _, a => .inr ⟨[], rfl⟩
theorem lvs_hd : ∀ (l : List Th) (a : Int), (lvs l a = [] ∧ wds l = 0) ∨ ∃ r, lvs l a = a :: r
  | [], a => .inl ⟨rfl, rfl⟩
  | t :: l, a => by
    rcases lv_hd t a with ⟨h1, h2, _⟩ | ⟨r, h⟩
    · rcases lvs_hd l a with ⟨h3, h4⟩ | ⟨r, h3⟩
      · left
        refine ⟨?_, ?_⟩
        · show lv t a ++ lvs l (a + wd t) = []
          rw [h1, h2, Int.add_zero, h3]
          rfl
        · show wd t + wds l = 0
          omega
      · right
        refine ⟨r, ?_⟩
        show lv t a ++ lvs l (a + wd t) = _
        rw [h1, h2, Int.add_zero, h3]
        rfl
    · right
      exact ⟨r ++ lvs l (a + wd t), by
        show lv t a ++ lvs l (a + wd t) = _
        rw [h]
        rfl⟩
end
/-- the next place -/
theorem rn_hd (g : Th → Int) (hg : ∀ t, isSp t = false → g t = 0) (ex S w : Int) : ∀ (l : List Th) (x y : Int), (x + wds l) + ex * (y + (l.map g).sum) / S = w → ∃ r, rn g ex S x y l ++ [w] = (x + ex * y / S) :: r
  | [], x, y, h => by
    refine ⟨[], ?_⟩
    have h' : x + 0 + ex * (y + 0) / S = w := h
    rw [Int.add_zero, Int.add_zero] at h'
    rw [h']
    rfl
  | t :: l, x, y, h => by
    have h' : x + (wd t + wds l) + ex * (y + (g t + (l.map g).sum)) / S = w := h
    rcases lv_hd t (x + ex * y / S) with ⟨h1, h2, h3⟩ | ⟨r, h1⟩
    · have h4 := hg t h3
      rw [h2, h4, Int.zero_add, Int.zero_add] at h'
      obtain ⟨r, e⟩ := rn_hd g hg ex S w l x y h'
      refine ⟨r, ?_⟩
      show (lv t _ ++ rn g ex S (x + wd t) (y + g t) l) ++ [w] = _
      rw [h1, h2, h4, Int.add_zero, Int.add_zero]
      exact e
    · refine ⟨r ++ rn g ex S (x + wd t) (y + g t) l ++ [w], ?_⟩
      show (lv t _ ++ rn g ex S (x + wd t) (y + g t) l) ++ [w] = _
      rw [h1]
      rfl
theorem gO_sp (up : Bool) (l : List Th) (t : Th) (h : isSp t = false) : gO up l t = 0 := by
  unfold gO ruT
  rw [if_neg]
  rw [h]
  exact fun z => nomatch z.1
theorem pos_split {g : Th → Int} : ∀ {b : List Th}, 0 < (b.map g).sum → ∃ b1 t b2, b = b1 ++ (t :: b2) ∧ 0 < g t
  | [], h => absurd h (Int.lt_irrefl 0)
  | t :: b, h => by
    have h' : 0 < g t + (b.map g).sum := h
    by_cases ht : 0 < g t
    · exact ⟨[], t, b, rfl, ht⟩
    · obtain ⟨b1, u, b2, e, h2⟩ := pos_split (g := g) (b := b) (by omega)
      exact ⟨t :: b1, u, b2, by rw [e]; rfl, h2⟩
theorem lvs_app : ∀ (a b : List Th) (x : Int), lvs (a ++ b) x = lvs a x ++ lvs b (x + wds a)
  | [], b, x => by
    show lvs b x = lvs b (x + 0)
    rw [Int.add_zero]
  | t :: a, b, x => by
    show lv t x ++ lvs (a ++ b) (x + wd t) = lv t x ++ lvs a (x + wd t) ++ lvs b (x + (wd t + wds a))
    rw [lvs_app a b, List.append_assoc, Int.add_assoc]
theorem lv_sp {t : Th} (h : isSp t = true) (a : Int) : lv t a = [a] := by
  cases t with
  | box l => exact nomatch h
  | _ => rfl
/-- the lists part -/
theorem lists_part (g g' : Th → Int) (hg : ∀ t, isSp t = false → g t = 0) (hg' : ∀ t, isSp t = false → g' t = 0) (ex S S' w : Int) (a b c : List Th) (e : Int) (he : e = 1 ∨ e = -1) (hS : S ≠ 0) (hex : ex = e * S)
    (hs : ((a ++ (b ++ c)).map g).sum = S) (hw : wds (a ++ (b ++ c)) + ex = w) (hs' : ((pk a b c).map g').sum = S' ∨ (ex * ((pk a b c).map g').sum / S' = ex)) (hS' : S' ≠ 0) (hb : 0 < (b.map g).sum)
    (heq : rn g ex S 0 0 (a ++ (b ++ c)) ++ [w] = rn g' ex S' 0 0 (pk a b c) ++ [w]) : False := by
  obtain ⟨b1, t, b2, rfl, ht⟩ := pos_split hb
  have hsp : isSp t = true := by
    by_cases h : isSp t = true
    · exact h
    · have := hg t (by simpa using h)
      omega
  have hdiv : ∀ y : Int, ex * y / S = e * y := fun y => by
    rw [hex, show e * S * y = S * (e * y) by rw [Int.mul_comm e S, Int.mul_assoc]]
    exact Int.mul_ediv_cancel_left _ hS
  have hbox : g' (.box (b1 ++ (t :: b2))) = 0 := hg' _ rfl
  -- the first list
  have e1 : a ++ (b1 ++ (t :: b2) ++ c) = (a ++ b1) ++ (t :: (b2 ++ c)) := by simp
  have hw1 : wds ((a ++ b1) ++ (t :: (b2 ++ c))) = wds (a ++ b1) + (wd t + wds (b2 ++ c)) := by rw [wds_app]; rfl
  have hs1 : (((a ++ b1) ++ (t :: (b2 ++ c))).map g).sum = ((a ++ b1).map g).sum + (g t + ((b2 ++ c).map g).sum) := by rw [List.map_append, List.sum_append]; rfl
  rw [e1] at heq hs hw
  rw [hs1] at hs
  rw [hw1] at hw
  obtain ⟨r1, k1⟩ := rn_hd g hg ex S w (b2 ++ c) (0 + wds (a ++ b1) + wd t) (0 + ((a ++ b1).map g).sum + g t) (by
    rw [hdiv]
    have : 0 + ((a ++ b1).map g).sum + g t + ((b2 ++ c).map g).sum = S := by omega
    rw [this]
    omega)
  have l1 : rn g ex S 0 0 (a ++ b1) ++ rn g ex S (0 + wds (a ++ b1)) (0 + ((a ++ b1).map g).sum) (t :: (b2 ++ c)) ++ [w] = rn g ex S 0 0 (a ++ b1) ++ ((0 + wds (a ++ b1) + ex * (0 + ((a ++ b1).map g).sum) / S) :: (rn g ex S (0 + wds (a ++ b1) + wd t) (0 + ((a ++ b1).map g).sum + g t) (b2 ++ c) ++ [w])) := by
    show rn g ex S 0 0 (a ++ b1) ++ (lv t _ ++ rn g ex S (0 + wds (a ++ b1) + wd t) (0 + ((a ++ b1).map g).sum + g t) (b2 ++ c)) ++ [w] = _
    rw [lv_sp hsp, List.append_assoc, List.append_assoc]
    rfl
  -- the second list
  unfold pk at heq hs'
  rw [rn_app g ex S (a ++ b1), l1, k1, rn_app g' ex S' a] at heq
  have hw2 : wds (b1 ++ (t :: b2)) = wds b1 + (wd t + wds b2) := by rw [wds_app]; rfl
  have l2 : rn g' ex S' (0 + wds a) (0 + (a.map g').sum) (.box (b1 ++ (t :: b2)) :: c) = lvs b1 (0 + wds a + ex * (0 + (a.map g').sum) / S') ++ ((0 + wds a + ex * (0 + (a.map g').sum) / S' + wds b1) :: (lvs b2 (0 + wds a + ex * (0 + (a.map g').sum) / S' + wds b1 + wd t) ++ rn g' ex S' (0 + wds a + wds (b1 ++ (t :: b2))) (0 + (a.map g').sum) c)) := by
    show lvs (b1 ++ (t :: b2)) _ ++ rn g' ex S' (_ + wds (b1 ++ (t :: b2))) (_ + g' (.box (b1 ++ (t :: b2)))) c = _
    rw [hbox, Int.add_zero, lvs_app]
    show lvs b1 _ ++ (lv t _ ++ lvs b2 _) ++ _ = _
    rw [lv_sp hsp, List.append_assoc]
    rfl
  rw [l2] at heq
  have hfin : 0 + wds a + wds (b1 ++ (t :: b2)) + wds c + ex * (0 + (a.map g').sum + (c.map g').sum) / S' = w := by
    have hsum : ((a ++ (.box (b1 ++ (t :: b2)) :: c)).map g').sum = (a.map g').sum + (c.map g').sum := by
      rw [List.map_append, List.sum_append, List.map_cons, List.sum_cons, hbox, Int.zero_add]
    have hq : ex * ((a.map g').sum + (c.map g').sum) / S' = ex := by
      rcases hs' with h | h
      · rw [← hsum, h, Int.mul_ediv_cancel _ hS']
      · rw [← hsum]; exact h
    rw [Int.zero_add, Int.zero_add, hq]
    rw [wds_app] at hw
    have : wds (b2 ++ c) = wds b2 + wds c := wds_app _ _
    omega
  have hd2 : ∃ r, lvs b2 (0 + wds a + ex * (0 + (a.map g').sum) / S' + wds b1 + wd t) ++ rn g' ex S' (0 + wds a + wds (b1 ++ (t :: b2))) (0 + (a.map g').sum) c ++ [w] = (0 + wds a + ex * (0 + (a.map g').sum) / S' + wds b1 + wd t) :: r := by
    rcases lvs_hd b2 (0 + wds a + ex * (0 + (a.map g').sum) / S' + wds b1 + wd t) with ⟨h1, h2⟩ | ⟨r, h1⟩
    · obtain ⟨r, e⟩ := rn_hd g' hg' ex S' w c (0 + wds a + wds (b1 ++ (t :: b2))) (0 + (a.map g').sum) hfin
      refine ⟨r, ?_⟩
      rw [h1, List.nil_append, e, hw2, h2]
      congr 1
      omega
    · exact ⟨_, by rw [h1]; rfl⟩
  obtain ⟨r2, k2⟩ := hd2
  have heq2 : rn g ex S 0 0 (a ++ b1) ++ ((0 + wds (a ++ b1) + ex * (0 + ((a ++ b1).map g).sum) / S) :: (0 + wds (a ++ b1) + wd t + ex * (0 + ((a ++ b1).map g).sum + g t) / S) :: r1) = (rn g' ex S' 0 0 a ++ lvs b1 (0 + wds a + ex * (0 + (a.map g').sum) / S')) ++ ((0 + wds a + ex * (0 + (a.map g').sum) / S' + wds b1) :: (0 + wds a + ex * (0 + (a.map g').sum) / S' + wds b1 + wd t) :: r2) := by
    rw [heq, ← k2]
    simp
  have hlen : (rn g ex S 0 0 (a ++ b1)).length = (rn g' ex S' 0 0 a ++ lvs b1 (0 + wds a + ex * (0 + (a.map g').sum) / S')).length := by
    rw [rn_nl, List.length_append, rn_nl, lvs_nl, nls_app]
  have h3 := (List.append_inj heq2 hlen).2
  injection h3 with q1 q2
  injection q2 with q2 _
  rw [hdiv] at q1 q2
  rw [Int.mul_add] at q2
  rcases he with rfl | rfl <;> omega
end K63

set_option linter.all false
set_option maxRecDepth 100000
set_option maxHeartbeats 4000000
/-! A strip cut in two: plain. -/
namespace K63
open PySem Ev
/-- leaves by a function of the sum ahead -/
def rf (g : Th → Int) (q : Int → Int) : Int → Int → List Th → List Int
  | _, _, [] => []
  | x, y, t :: m => lv t (x + q y) ++ rf g q (x + wd t) (y + g t) m
def ysL (g : Th → Int) : Int → List Th → List Int
  | _, [] => []
  | y, t :: m => y :: ysL g (y + g t) m
theorem rn_rf (g : Th → Int) (ex S : Int) : ∀ (m : List Th) (x y : Int), rn g ex S x y m = rf g (fun y => ex * y / S) x y m
  | [], x, y => rfl
  | t :: m, x, y => by
    show lv t _ ++ rn g ex S _ _ m = lv t _ ++ rf g _ _ _ m
    rw [rn_rf g ex S m]
theorem rf_congr (g : Th → Int) {q q' : Int → Int} : ∀ (m : List Th) (x y : Int), (∀ z ∈ ysL g y m, q z = q' z) → rf g q x y m = rf g q' x y m
  | [], x, y, h => rfl
  | t :: m, x, y, h => by
    show lv t (x + q y) ++ rf g q _ _ m = lv t (x + q' y) ++ rf g q' _ _ m
    rw [h y List.mem_cons_self, rf_congr g m _ _ fun z hz => h z (List.mem_cons_of_mem _ hz)]
theorem rf_shift (g : Th → Int) (q : Int → Int) (u v : Int) : ∀ (m : List Th) (x y : Int), rf g q (x + u) (y - v) m = rf g (fun y => u + q (y - v)) x y m
  | [], x, y => rfl
  | t :: m, x, y => by
    show lv t (x + u + q (y - v)) ++ rf g q (x + u + wd t) (y - v + g t) m = lv t (x + (u + q (y - v))) ++ rf g _ (x + wd t) (y + g t) m
    rw [← rf_shift g q u v m (x + wd t) (y + g t), Int.add_assoc x u, show x + u + wd t = x + wd t + u by omega, show y - v + g t = y + g t - v by omega]
theorem rf_nl (g : Th → Int) (q : Int → Int) : ∀ (l : List Th) (x y : Int), (rf g q x y l).length = nls l
  | [], x, y => rfl
  | t :: l, x, y => by
    show (lv t _ ++ rf g q _ _ l).length = nl t + nls l
    rw [List.length_append, lv_nl, rf_nl g q l]
theorem rf_inj (g : Th → Int) (hg : ∀ t, isSp t = false → g t = 0) {q q' : Int → Int} : ∀ (m : List Th) (x y : Int), rf g q x y m = rf g q' x y m → q (y + (m.map g).sum) = q' (y + (m.map g).sum) → q y = q' y ∧ ∀ z ∈ ysL g y m, q z = q' z
  | [], x, y, h, he => by
    have he' : q (y + 0) = q' (y + 0) := he
    rw [Int.add_zero] at he'
    exact ⟨he', fun z hz => nomatch hz⟩
  | t :: m, x, y, h, he => by
    have h' : lv t (x + q y) ++ rf g q (x + wd t) (y + g t) m = lv t (x + q' y) ++ rf g q' (x + wd t) (y + g t) m := h
    obtain ⟨h1, h2⟩ := List.append_inj h' (by rw [lv_nl, lv_nl])
    have he' : q (y + (g t + (m.map g).sum)) = q' (y + (g t + (m.map g).sum)) := he
    rw [← Int.add_assoc] at he'
    obtain ⟨i1, i2⟩ := rf_inj g hg m _ _ h2 he'
    have key : q y = q' y := by
      rcases lv_hd t (x + q y) with ⟨k1, k2, k3⟩ | ⟨r, k1⟩
      · rw [hg t k3, Int.add_zero] at i1
        exact i1
      · rcases lv_hd t (x + q' y) with ⟨k2, _, _⟩ | ⟨r', k2⟩
        · rw [k1, k2] at h1
          exact nomatch h1
        · rw [k1, k2] at h1
          injection h1 with h1 _
          omega
    refine ⟨key, fun z hz => ?_⟩
    rcases List.mem_cons.mp hz with rfl | hz
    · exact key
    · exact i2 z hz
mutual
theorem lv_map (u : Int) : ∀ (t : Th) (a : Int), (lv t a).map (u + ·) = lv t (u + a)
  | .box l, a => lvs_map u l a
  | .sign _, a => rfl
  | .kern _, a => rfl
  | .place _, a => rfl
  | .space _ _ _ _ _, a => rfl
theorem lvs_map (u : Int) : ∀ (l : List Th) (a : Int), (lvs l a).map (u + ·) = lvs l (u + a)
  | [], a => rfl
  | t :: l, a => by
    show (lv t a ++ lvs l (a + wd t)).map (u + ·) = lv t (u + a) ++ lvs l (u + a + wd t)
    rw [List.map_append, lv_map u t, lvs_map u l, Int.add_assoc]
end
theorem rf_map (g : Th → Int) (q : Int → Int) (u : Int) : ∀ (m : List Th) (x y : Int), (rf g q x y m).map (u + ·) = rf g q (x + u) y m
  | [], x, y => rfl
  | t :: m, x, y => by
    show (lv t _ ++ rf g q _ _ m).map (u + ·) = lv t (x + u + q y) ++ rf g q (x + u + wd t) (y + g t) m
    rw [List.map_append, lv_map, rf_map g q u m, show u + (x + q y) = x + u + q y by omega, show x + wd t + u = x + u + wd t by omega]
theorem rf_flat (g : Th → Int) {q : Int → Int} (hq : ∀ y, q y = 0) : ∀ (m : List Th) (x y : Int), rf g q x y m = lvs m x
  | [], x, y => rfl
  | t :: m, x, y => by
    show lv t (x + q y) ++ rf g q _ _ m = lv t x ++ lvs m (x + wd t)
    rw [hq, Int.add_zero, rf_flat g hq m]
theorem lz_shift (u : Int) : ∀ (l : List Th) (as : List Int), lz l (as.map (u + ·)) = (lz l as).map (u + ·)
  | [], as => by cases as <;> rfl
  | t :: l, [] => rfl
  | t :: l, a :: as => by
    show lv t (u + a) ++ lz l (as.map (u + ·)) = (lv t a ++ lz l as).map (u + ·)
    rw [List.map_append, lv_map, lz_shift u l as]
/-- where the sums ahead lie -/
theorem ys_bd {g : Th → Int} : ∀ (m : List Th) (y : Int), (∀ t ∈ m, 0 ≤ g t) → ∀ z ∈ ysL g y m, y ≤ z ∧ z ≤ y + (m.map g).sum
  | [], y, h, z, hz => nomatch hz
  | t :: m, y, h, z, hz => by
    have h1 := h t List.mem_cons_self
    have h3 : ∀ k : List Th, (∀ t ∈ k, 0 ≤ g t) → 0 ≤ (k.map g).sum := fun k => by
      induction k with
      | nil => intro _; exact Int.le_refl _
      | cons a k ih =>
        intro hk
        have a1 := hk a List.mem_cons_self
        have a2 := ih fun x hx => hk x (List.mem_cons_of_mem _ hx)
        show 0 ≤ g a + (k.map g).sum
        omega
    have h2 := h3 m fun x hx => h x (List.mem_cons_of_mem _ hx)
    show y ≤ z ∧ z ≤ y + (g t + (m.map g).sum)
    rcases List.mem_cons.mp hz with rfl | hz
    · omega
    · have := ys_bd m (y + g t) (fun x hx => h x (List.mem_cons_of_mem _ hx)) z hz
      omega
theorem runs_ys (g : Th → Int) : ∀ (m : List Th) (y : Int), runs y (m.map g) = ysL g y m ++ [y + (m.map g).sum]
  | [], y => by
    show [y] = [y + 0]
    rw [Int.add_zero]
  | t :: m, y => by
    show y :: runs (y + g t) (m.map g) = y :: (ysL g (y + g t) m ++ [y + (g t + (m.map g).sum)])
    rw [runs_ys g m, Int.add_assoc]
theorem ysL_len (g : Th → Int) : ∀ (m : List Th) (y : Int), (ysL g y m).length = m.length
  | [], y => rfl
  | t :: m, y => by
    show (ysL g (y + g t) m).length + 1 = m.length + 1
    rw [ysL_len g m]
theorem ysL_app (g : Th → Int) : ∀ (a c : List Th) (y : Int), ysL g y (a ++ c) = ysL g y a ++ ysL g (y + (a.map g).sum) c
  | [], c, y => by
    show ysL g y c = ysL g (y + 0) c
    rw [Int.add_zero]
  | t :: a, c, y => by
    show y :: ysL g (y + g t) (a ++ c) = y :: (ysL g (y + g t) a ++ ysL g (y + (g t + (a.map g).sum)) c)
    rw [ysL_app g a c, Int.add_assoc]
/-! numbers -/
def fst (ex A S : Int) : Int := ex * A / den S
def h1 (ex A S y : Int) : Int := fst ex A S * y / den A
def h2 (ex A B S y : Int) : Int := fst ex A S + (ex - fst ex A S) * (y - A) / den B
def dd (ex S y : Int) : Int := ex * y / den S
theorem den_pos (s : Int) : 0 < den s := by unfold den; split <;> omega
theorem den_eq {s : Int} (h : 0 < s) : den s = s := by unfold den; split <;> omega
section
variable {ex A B S : Int} (hA : 0 ≤ A) (hB : 0 ≤ B) (hS : A + B = S) (h0 : 0 < S)
include hA hB hS h0
theorem fst_up (he : 0 ≤ ex) : 0 ≤ fst ex A S ∧ fst ex A S ≤ ex := by
  unfold fst
  rw [den_eq h0]
  refine ⟨Int.ediv_nonneg (Int.mul_nonneg he hA) (by omega), ?_⟩
  have h1 : ex * A ≤ ex * S := Int.mul_le_mul_of_nonneg_left (by omega) he
  have h2 := Int.ediv_le_ediv h0 h1
  rw [Int.mul_ediv_cancel _ (by omega)] at h2
  exact h2
theorem fst_dn (he : ex ≤ 0) : fst ex A S ≤ 0 ∧ ex ≤ fst ex A S := by
  unfold fst
  rw [den_eq h0]
  constructor
  · have h1 : ex * A ≤ 0 := Int.mul_nonpos_of_nonpos_of_nonneg he hA
    have h2 := Int.ediv_le_ediv h0 h1
    rw [Int.zero_ediv] at h2
    exact h2
  · have h1 : ex * S ≤ ex * A := Int.mul_le_mul_of_nonpos_left he (by omega)
    have h2 := Int.ediv_le_ediv h0 h1
    rw [Int.mul_ediv_cancel _ (by omega)] at h2
    exact h2
theorem fst_A0 (h : A = 0) : fst ex A S = 0 := by unfold fst; rw [h, Int.mul_zero, Int.zero_ediv]
theorem fst_B0 (h : B = 0) : fst ex A S = ex := by
  have : A = S := by omega
  unfold fst
  rw [den_eq h0, this, Int.mul_ediv_cancel _ (by omega)]
theorem fst_sm (h : -S ≤ ex) (h' : ex ≤ 0) : -A ≤ fst ex A S ∧ fst ex A S - ex ≤ B := by
  unfold fst
  rw [den_eq h0]
  constructor
  · have h1 : (-A) * S ≤ ex * A := by
      have := Int.mul_le_mul_of_nonneg_right h hA
      rw [Int.neg_mul, Int.mul_comm A S, ← Int.neg_mul]
      exact this
    have h2 := Int.ediv_le_ediv h0 h1
    rw [Int.mul_ediv_cancel _ (by omega)] at h2
    exact h2
  · have h1 : ex * A ≤ (ex + B) * S := by
      have h3 : 0 ≤ (ex + S) * B := Int.mul_nonneg (by omega) hB
      have h4 : (ex + B) * S = ex * A + (ex + S) * B := by
        rw [← hS]
        simp only [Int.add_mul, Int.mul_add]
        rw [Int.mul_comm B A]
        omega
      omega
    have h2 := Int.ediv_le_ediv h0 h1
    rw [Int.mul_ediv_cancel _ (by omega)] at h2
    omega
/-- whole turns change nothing -/
theorem fst_per (q : Int) : fst (ex + q * S) A S = fst ex A S + q * A := by
  unfold fst
  rw [den_eq h0, show (ex + q * S) * A = ex * A + q * A * S by rw [Int.add_mul, Int.mul_assoc, Int.mul_comm S A, ← Int.mul_assoc], Int.add_mul_ediv_right _ _ (by omega)]
theorem dd_per (q y : Int) : dd (ex + q * S) S y = dd ex S y + q * y := by
  unfold dd
  rw [den_eq h0, show (ex + q * S) * y = ex * y + q * y * S by rw [Int.add_mul, Int.mul_assoc, Int.mul_comm S y, ← Int.mul_assoc], Int.add_mul_ediv_right _ _ (by omega)]
theorem h1_per (q y : Int) (hy : 0 ≤ y) (hy2 : y ≤ A) : h1 (ex + q * S) A S y = h1 ex A S y + q * y := by
  unfold h1
  rw [fst_per hA hB hS h0]
  by_cases hz : A = 0
  · have : y = 0 := by omega
    subst this
    simp
  · rw [den_eq (by omega), show (fst ex A S + q * A) * y = fst ex A S * y + q * y * A by rw [Int.add_mul, Int.mul_assoc, Int.mul_comm A y, ← Int.mul_assoc], Int.add_mul_ediv_right _ _ hz]
theorem h2_per (q y : Int) (hy : A ≤ y) (hy2 : y ≤ S) : h2 (ex + q * S) A B S y = h2 ex A B S y + q * y := by
  unfold h2
  rw [fst_per hA hB hS h0]
  by_cases hz : B = 0
  · have : y = A := by omega
    subst this
    simp
  · have e1 : ex + q * S - (fst ex A S + q * A) = (ex - fst ex A S) + q * B := by
      rw [← hS, Int.mul_add]
      omega
    rw [e1, den_eq (by omega), show ((ex - fst ex A S) + q * B) * (y - A) = (ex - fst ex A S) * (y - A) + q * (y - A) * B by rw [Int.add_mul, Int.mul_assoc, Int.mul_comm B, ← Int.mul_assoc], Int.add_mul_ediv_right _ _ hz]
    have e2 := Int.mul_sub q y A
    omega
/-- the ends -/
theorem h1_end : h1 ex A S A = dd ex S A := by
  unfold h1
  by_cases hz : A = 0
  · rw [fst_A0 hA hB hS h0 hz, Int.zero_mul, Int.zero_ediv]
    unfold dd
    rw [hz, Int.mul_zero, Int.zero_ediv]
  · rw [den_eq (by omega), Int.mul_ediv_cancel _ hz]
    rfl
theorem h2_end : h2 ex A B S S = dd ex S S := by
  unfold h2 dd
  have e : S - A = B := by omega
  rw [e, den_eq h0, Int.mul_ediv_cancel _ (by omega)]
  by_cases hz : B = 0
  · rw [fst_B0 hA hB hS h0 hz, hz, Int.mul_zero, Int.zero_ediv]
    omega
  · rw [den_eq (by omega), Int.mul_ediv_cancel _ hz]
    omega
theorem h2_start : h2 ex A B S A = dd ex S A := by
  unfold h2 dd
  rw [Int.sub_self, Int.mul_zero, Int.zero_ediv, Int.add_zero]
  rfl
end
theorem zero_same {A B S y : Int} : h1 0 A S y = 0 ∧ h2 0 A B S y = 0 ∧ dd 0 S y = 0 := by
  have : fst 0 A S = 0 := by unfold fst; rw [Int.zero_mul, Int.zero_ediv]
  unfold h1 h2 dd
  rw [this]
  simp
end K63

set_option linter.all false
set_option maxRecDepth 100000
set_option maxHeartbeats 4000000
/-! Halves and what is due. -/
namespace K63
open PySem Ev
def gs (up : Bool) (a c : List Th) : Th → Int := gO up (a ++ c)
def sA (up : Bool) (a c : List Th) : Int := (a.map (gs up a c)).sum
def sB (up : Bool) (a c : List Th) : Int := (c.map (gs up a c)).sum
def sS (up : Bool) (a c : List Th) : Int := (ru up (a ++ c)).sum
def hlv (a c : List Th) (w : Int) : List Int := lt a (topAt (a ++ c) w a.length) 0 a ++ (lt c (w - topAt (a ++ c) w a.length) 0 c).map (topAt (a ++ c) w a.length + ·)
def noD (up : Bool) (a c : List Th) (ex : Int) : Prop := (∀ y ∈ ysL (gs up a c) 0 a, h1 ex (sA up a c) (sS up a c) y = dd ex (sS up a c) y) ∧ ∀ y ∈ ysL (gs up a c) (sA up a c) c, h2 ex (sA up a c) (sB up a c) (sS up a c) y = dd ex (sS up a c) y
theorem sum_nn0 : ∀ {l : List Int}, (∀ x ∈ l, 0 ≤ x) → 0 ≤ l.sum
  | [], _ => Int.le_refl _
  | x :: l, h => by
    have h1 := h x List.mem_cons_self
    have h2 := sum_nn0 fun y hy => h y (List.mem_cons_of_mem _ hy)
    rw [List.sum_cons]
    omega
section
variable {a c : List Th} {d : Nat}
theorem gs_nn {up : Bool} (h : wfs (a ++ c) d) : ∀ t ∈ a ++ c, 0 ≤ gs up a c t := fun t ht => (g_nn (wfs_le _ d h t ht)).1
theorem sA_nn {up : Bool} (h : wfs (a ++ c) d) : 0 ≤ sA up a c := by
  refine sum_nn0 fun x hx => ?_
  obtain ⟨t, ht, rfl⟩ := List.mem_map.mp hx
  exact gs_nn h t (List.mem_append_left _ ht)
theorem sB_nn {up : Bool} (h : wfs (a ++ c) d) : 0 ≤ sB up a c := by
  refine sum_nn0 fun x hx => ?_
  obtain ⟨t, ht, rfl⟩ := List.mem_map.mp hx
  exact gs_nn h t (List.mem_append_right _ ht)
theorem sAB (up : Bool) : sA up a c + sB up a c = sS up a c := by
  show _ = ((a ++ c).map (gs up a c)).sum
  rw [List.map_append, List.sum_append]
  rfl
theorem top_at (w : Int) : topAt (a ++ c) w a.length = wds a + fst (w - wds (a ++ c)) (sA (upOf (w - wds (a ++ c))) a c) (sS (upOf (w - wds (a ++ c))) a c) := by
  unfold topAt fst den sS sA
  have t1 : (a ++ c).take a.length = a := List.take_left
  have t2 : (ru (upOf (w - wds (a ++ c))) (a ++ c)).take a.length = a.map (gs (upOf (w - wds (a ++ c))) a c) := by
    show ((a ++ c).map (gs _ a c)).take a.length = _
    rw [← List.map_take, t1]
  rw [t1, t2]
/-- a part that has of the sum -/
theorem sub_g {up : Bool} {l k : List Th} (h : wfs l d) (hk : ∀ t ∈ k, t ∈ l) (hp : 0 < (k.map (gO up l)).sum) : gO up k = gO up l ∧ (ru up k).sum = (k.map (gO up l)).sum ∧ ∃ t ∈ k, isSp t = true ∧ 0 < am up t ∧ od up t = tp up l := by
  have hwk : wfs k d := wfs_mem fun t ht => wfs_le l d h t (hk t ht)
  obtain ⟨b1, t, b2, e, ht⟩ := pos_split hp
  have htk : t ∈ k := by rw [e]; exact List.mem_append_right _ List.mem_cons_self
  have h2 : isSp t = true ∧ od up t = tp up l ∧ 0 < am up t := by
    have ht' := ht
    unfold gO ruT at ht'
    split at ht'
    · rename_i hq
      exact ⟨hq.1, hq.2, ht'⟩
    · exact absurd ht' (by decide)
  obtain ⟨p, q, r⟩ := tp_spec (up := up) h
  have e2 : tp up k = tp up l := by
    refine tp_uniq hwk _ (.inr ?_) q fun x hx => ?_
    · rw [← h2.2.1]
      exact mem_ords htk h2.1 h2.2.2
    · obtain ⟨u, hu, u1, u2, u3⟩ := ords_mem hx
      rw [← u3]
      exact r _ (mem_ords (hk u hu) u1 u2)
  have e3 : gO up k = gO up l := by unfold gO; rw [e2]
  refine ⟨e3, ?_, t, htk, h2.1, h2.2.2, h2.2.1⟩
  show (k.map (gO up k)).sum = _
  rw [e3]
/-- a part's leaves -/
theorem part_lt {up : Bool} {l k : List Th} (h : wfs l d) (hk : ∀ t ∈ k, t ∈ l) (e w : Int) (hw : w - wds k = e) (he : e = 0 ∨ (upOf e = up ∧ 0 < (k.map (gO up l)).sum)) : lt k w 0 k = rf (gO up l) (fun y => e * y / den (k.map (gO up l)).sum) 0 0 k := by
  rw [lt_rn0, rn_rf, hw]
  rcases he with rfl | ⟨e1, e2⟩
  · rw [rf_flat _ (fun y => by simp), rf_flat _ (fun y => by simp)]
  · obtain ⟨g1, g2, _⟩ := sub_g h hk e2
    rw [e1, g1, g2]
theorem part_word {up : Bool} {l k : List Th} (h : wfs l d) (hk : ∀ t ∈ k, t ∈ l) (e w : Int) (hw : w - wds k = e) (he : e = 0 ∨ (upOf e = up ∧ 0 < (k.map (gO up l)).sum ∧ (e < 0 → -e ≤ (k.map (gO up l)).sum ∨ 0 < tp up l))) : wordM k w = "" := by
  unfold wordM
  rw [hw]
  rcases he with rfl | ⟨e1, e2, e3⟩
  · rw [if_pos (.inl rfl)]
  · obtain ⟨g1, g2, t, t1, t2, t3, t4⟩ := sub_g h hk e2
    rw [e1, g2]
    by_cases hp : 0 < e
    · rw [if_pos (.inr ⟨hp, e2⟩)]
    · by_cases hz : e = 0
      · rw [if_pos (.inl hz)]
      · have hn : e < 0 := by omega
        have hup : up = false := by rw [← e1]; unfold upOf; simp [hp]
        have hx : e < 0 ∧ (-e ≤ (k.map (gO up l)).sum ∨ k.filter soft ≠ []) := by
          refine ⟨hn, ?_⟩
          rcases e3 hn with q | q
          · exact .inl q
          · subst hup
            exact .inr (soft_mem.mpr ⟨t, t1, t2, t3, by omega⟩)
        rw [if_neg (by omega), if_pos hx]
theorem word_tp {l : List Th} {w : Int} (h : wfs l d) (hw : wordM l w = "") (h0 : w - wds l ≠ 0) : 0 < (ru (upOf (w - wds l)) l).sum ∧ (w - wds l < 0 → -(w - wds l) ≤ (ru (upOf (w - wds l)) l).sum ∨ 0 < tp (upOf (w - wds l)) l) := by
  unfold wordM at hw
  by_cases hp : 0 < w - wds l
  · by_cases hS : 0 < (ru (upOf (w - wds l)) l).sum
    · exact ⟨hS, fun z => by omega⟩
    · rw [if_neg (by omega), if_neg (by omega), if_pos hp] at hw
      exact absurd hw (by decide +kernel)
  · have hn : w - wds l < 0 := by omega
    have hup : upOf (w - wds l) = false := decide_eq_false hp
    by_cases hq : -(w - wds l) ≤ (ru (upOf (w - wds l)) l).sum
    · exact ⟨by omega, fun _ => .inl hq⟩
    · by_cases hf : l.filter soft ≠ []
      · obtain ⟨t, t1, t2, t3, t4⟩ := soft_mem.mp hf
        have ho := mem_ords t1 t2 t3
        rw [hup]
        obtain ⟨p, q, r⟩ := tp_spec (up := false) h
        have h5 := r _ ho
        refine ⟨?_, fun _ => .inr (by omega)⟩
        have h6 : (ru false l).sum ≠ 0 := fun z => by
          rw [(sum_iff h).mp z] at ho
          exact nomatch ho
        have h7 := (sum_nn (ru_nn (up := false) h)).1
        omega
      · rw [if_neg (by omega), if_neg (fun z => by
          rcases z.2 with h | h
          · exact hq h
          · exact hf h), if_neg hp] at hw
        exact absurd hw (by decide +kernel)
theorem mem_l : ∀ t ∈ a, t ∈ a ++ c := fun t ht => List.mem_append_left _ ht
theorem mem_r : ∀ t ∈ c, t ∈ a ++ c := fun t ht => List.mem_append_right _ ht
/-- facts about the two parts' excesses -/
theorem two_ex (h : wfs (a ++ c) d) {w : Int} (hw : wordM (a ++ c) w = "") (up : Bool) (hup : up = upOf (w - wds (a ++ c))) (f e2 : Int) (hf : f = fst (w - wds (a ++ c)) (sA up a c) (sS up a c)) (he2 : e2 = (w - wds (a ++ c)) - f) :
    (f = 0 ∨ (upOf f = up ∧ 0 < sA up a c ∧ (f < 0 → -f ≤ sA up a c ∨ 0 < tp up (a ++ c)))) ∧ (e2 = 0 ∨ (upOf e2 = up ∧ 0 < sB up a c ∧ (e2 < 0 → -e2 ≤ sB up a c ∨ 0 < tp up (a ++ c)))) := by
  by_cases h0 : w - wds (a ++ c) = 0
  · have : f = 0 := by rw [hf, h0]; unfold fst; rw [Int.zero_mul, Int.zero_ediv]
    exact ⟨.inl this, .inl (by omega)⟩
  · obtain ⟨w1, w2⟩ := word_tp h hw h0
    rw [← hup] at w1 w2
    obtain ⟨ex, hex⟩ : ∃ ex, ex = w - wds (a ++ c) := ⟨_, rfl⟩
    rw [← hex] at hup hf he2 h0 w2
    have hA := sA_nn (up := up) h
    have hB := sB_nn (up := up) h
    have hS := sAB (a := a) (c := c) up
    have w1' : 0 < sS up a c := w1
    have w2' : ex < 0 → -ex ≤ sS up a c ∨ 0 < tp up (a ++ c) := w2
    have zA := fst_A0 (ex := ex) hA hB hS w1'
    have zB := fst_B0 (ex := ex) hA hB hS w1'
    rw [← hf] at zA zB
    by_cases hp : 0 < ex
    · obtain ⟨b1, b2⟩ := fst_up hA hB hS w1' (show 0 ≤ ex by omega)
      rw [← hf] at b1 b2
      have hu : up = true := by rw [hup]; unfold upOf; simp [hp]
      refine ⟨?_, ?_⟩
      · by_cases hz : f = 0
        · exact .inl hz
        · refine .inr ⟨by rw [hu]; unfold upOf; simp; omega, ?_, fun z => by omega⟩
          by_cases hA0 : sA up a c = 0
          · exact absurd (zA hA0) hz
          · omega
      · by_cases hz : e2 = 0
        · exact .inl hz
        · refine .inr ⟨by rw [hu]; unfold upOf; simp; omega, ?_, fun z => by omega⟩
          by_cases hB0 : sB up a c = 0
          · exact absurd (zB hB0) (by omega)
          · omega
    · obtain ⟨b1, b2⟩ := fst_dn hA hB hS w1' (show ex ≤ 0 by omega)
      rw [← hf] at b1 b2
      have hu : up = false := by rw [hup]; unfold upOf; simp [hp]
      have hsm : -sS up a c ≤ ex → -sA up a c ≤ f ∧ f - ex ≤ sB up a c := fun q => by
        have := fst_sm hA hB hS w1' q (by omega)
        rw [← hf] at this
        exact this
      have w3 := w2' (by omega)
      refine ⟨?_, ?_⟩
      · by_cases hz : f = 0
        · exact .inl hz
        · refine .inr ⟨by rw [hu]; unfold upOf; simp; omega, ?_, fun z => ?_⟩
          · by_cases hA0 : sA up a c = 0
            · exact absurd (zA hA0) hz
            · omega
          · rcases w3 with w3 | w3
            · have := hsm (by omega)
              exact .inl (by omega)
            · exact .inr w3
      · by_cases hz : e2 = 0
        · exact .inl hz
        · refine .inr ⟨by rw [hu]; unfold upOf; simp; omega, ?_, fun z => ?_⟩
          · by_cases hB0 : sB up a c = 0
            · exact absurd (zB hB0) (by omega)
            · omega
          · rcases w3 with w3 | w3
            · have := hsm (by omega)
              exact .inl (by omega)
            · exact .inr w3
theorem words_two (h : wfs (a ++ c) d) {w : Int} (hw : wordM (a ++ c) w = "") : wordM a (topAt (a ++ c) w a.length) = "" ∧ wordM c (w - topAt (a ++ c) w a.length) = "" := by
  obtain ⟨p, q⟩ := two_ex h hw _ rfl _ _ rfl rfl
  have ht := top_at (a := a) (c := c) w
  have hwd := wds_app a c
  exact ⟨part_word h mem_l _ _ (by omega) p, part_word h mem_r _ _ (by omega) q⟩
theorem hlv_rf (h : wfs (a ++ c) d) {w : Int} (hw : wordM (a ++ c) w = "") (up : Bool) (hup : up = upOf (w - wds (a ++ c))) : hlv a c w = rf (gs up a c) (h1 (w - wds (a ++ c)) (sA up a c) (sS up a c)) 0 0 a ++ rf (gs up a c) (h2 (w - wds (a ++ c)) (sA up a c) (sB up a c) (sS up a c)) (wds a) (sA up a c) c := by
  obtain ⟨p, q⟩ := two_ex h hw up hup _ _ rfl rfl
  have ht := top_at (a := a) (c := c) w
  rw [← hup] at ht
  have hwd := wds_app a c
  obtain ⟨f, hf⟩ : ∃ f, f = fst (w - wds (a ++ c)) (sA up a c) (sS up a c) := ⟨_, rfl⟩
  rw [← hf] at p q ht
  have e1 := part_lt (up := up) h mem_l f (topAt (a ++ c) w a.length) (by omega) (by
    rcases p with p | p
    · exact .inl p
    · exact .inr ⟨p.1, p.2.1⟩)
  have e2 := part_lt (up := up) h mem_r (w - wds (a ++ c) - f) (w - topAt (a ++ c) w a.length) (by omega) (by
    rcases q with q | q
    · exact .inl q
    · exact .inr ⟨q.1, q.2.1⟩)
  unfold hlv
  rw [e1, e2, rf_map]
  congr 1
  · show rf (gs up a c) _ 0 0 a = _
    congr 1
    funext y
    unfold h1
    rw [← hf]
    rfl
  · have e3 := rf_shift (gs up a c) (fun y => (w - wds (a ++ c) - f) * y / den (sB up a c)) f (sA up a c) c (wds a) (sA up a c)
    rw [Int.sub_self] at e3
    rw [ht, Int.zero_add]
    show rf (gs up a c) (fun y => (w - wds (a ++ c) - f) * y / den (sB up a c)) (wds a + f) 0 c = _
    rw [e3]
    congr 1
    funext y
    unfold h2
    rw [← hf]
theorem lt_rf (w : Int) (up : Bool) (hup : up = upOf (w - wds (a ++ c))) : lt (a ++ c) w 0 (a ++ c) = rf (gs up a c) (dd (w - wds (a ++ c)) (sS up a c)) 0 0 a ++ rf (gs up a c) (dd (w - wds (a ++ c)) (sS up a c)) (wds a) (sA up a c) c := by
  rw [lt_rn0, rn_app, rn_rf, rn_rf, ← hup, Int.zero_add, Int.zero_add]
  rfl
/-- no drift: the same -/
theorem same (h : wfs (a ++ c) d) {w : Int} (hw : wordM (a ++ c) w = "") (hn : noD (upOf (w - wds (a ++ c))) a c (w - wds (a ++ c))) : hlv a c w = lt (a ++ c) w 0 (a ++ c) := by
  rw [hlv_rf h hw _ rfl, lt_rf w _ rfl, rf_congr _ a _ _ hn.1, rf_congr _ c _ _ hn.2]
/-- the same: no drift -/
theorem no_of_same (h : wfs (a ++ c) d) {w : Int} (hw : wordM (a ++ c) w = "") (h0 : w - wds (a ++ c) ≠ 0) (he : hlv a c w = lt (a ++ c) w 0 (a ++ c)) : noD (upOf (w - wds (a ++ c))) a c (w - wds (a ++ c)) := by
  rw [hlv_rf h hw _ rfl, lt_rf w _ rfl] at he
  obtain ⟨w1, _⟩ := word_tp h hw h0
  obtain ⟨up, hup⟩ : ∃ up, up = upOf (w - wds (a ++ c)) := ⟨_, rfl⟩
  rw [← hup] at he w1 ⊢
  have hA := sA_nn (up := up) h
  have hB := sB_nn (up := up) h
  have hS := sAB (a := a) (c := c) up
  have w1' : 0 < sS up a c := w1
  obtain ⟨i1, i2⟩ := List.append_inj he (by rw [rf_nl, rf_nl])
  have hg : ∀ t, isSp t = false → gs up a c t = 0 := gO_sp up _
  refine ⟨(rf_inj _ hg _ _ _ i1 ?_).2, (rf_inj _ hg _ _ _ i2 ?_).2⟩
  · rw [Int.zero_add]
    exact h1_end hA hB hS w1'
  · show h2 _ _ _ _ (sA up a c + sB up a c) = dd _ _ (sA up a c + sB up a c)
    rw [hS]
    exact h2_end hA hB hS w1'
/-- whole turns -/
theorem noD_per {up : Bool} (h : wfs (a ++ c) d) (h0 : 0 < sS up a c) (ex q : Int) (hn : noD up a c ex) : noD up a c (ex + q * sS up a c) := by
  have hA := sA_nn (up := up) h
  have hB := sB_nn (up := up) h
  have hS := sAB (a := a) (c := c) up
  have n1 := gs_nn (up := up) h
  refine ⟨fun y hy => ?_, fun y hy => ?_⟩
  · have b := ys_bd a 0 (fun t ht => n1 t (mem_l t ht)) y hy
    have b2 : y ≤ 0 + sA up a c := b.2
    rw [h1_per hA hB hS h0 q y b.1 (by omega), dd_per hA hB hS h0, hn.1 y hy]
  · have b := ys_bd c (sA up a c) (fun t ht => n1 t (mem_r t ht)) y hy
    have b2 : y ≤ sA up a c + sB up a c := b.2
    rw [h2_per hA hB hS h0 q y b.1 (by omega), dd_per hA hB hS h0, hn.2 y hy]
theorem noD_zero (up : Bool) : noD up a c 0 := by
  refine ⟨fun y _ => ?_, fun y _ => ?_⟩
  · rw [(zero_same (B := 0)).1, (zero_same (A := 0) (B := 0)).2.2]
  · rw [zero_same.2.1, (zero_same (A := 0) (B := 0)).2.2]
def sg (up : Bool) : Int := if up = true then 1 else -1
def mayC (a c : List Th) : Prop := ∀ up : Bool, ∀ r : Int, 1 ≤ r → r < sS up a c → noD up a c (sg up * r)
theorem noD_all (h : wfs (a ++ c) d) (hm : mayC a c) (up : Bool) (h0 : 0 < sS up a c) (ex : Int) (hu : up = upOf ex) : noD up a c ex := by
  obtain ⟨m, hmm⟩ : ∃ m, m = sg up * ex := ⟨_, rfl⟩
  have r0 := Int.emod_nonneg m (show sS up a c ≠ 0 by omega)
  have r1 := Int.emod_lt_of_pos m h0
  have r2 := Int.emod_add_mul_ediv m (sS up a c)
  have hb : noD up a c (sg up * (m % sS up a c)) := by
    by_cases hz : m % sS up a c = 0
    · rw [hz, Int.mul_zero]
      exact noD_zero up
    · exact hm up _ (by omega) r1
  have e : ex = sg up * (m % sS up a c) + (sg up * (m / sS up a c)) * sS up a c := by
    have hc := Int.mul_comm (sS up a c) (m / sS up a c)
    cases up
    · have : sg false = -1 := rfl
      rw [this] at hmm ⊢
      have h3 := Int.neg_mul (m / sS false a c) (sS false a c)
      rw [show (-1 : Int) * (m / sS false a c) = -(m / sS false a c) by omega]
      omega
    · have : sg true = 1 := rfl
      rw [this] at hmm ⊢
      rw [Int.one_mul, Int.one_mul]
      omega
  rw [e]
  exact noD_per h h0 _ _ hb
theorem all_same (h : wfs (a ++ c) d) (hm : mayC a c) {w : Int} (hw : wordM (a ++ c) w = "") : hlv a c w = lt (a ++ c) w 0 (a ++ c) := by
  refine same h hw ?_
  by_cases h0 : w - wds (a ++ c) = 0
  · rw [h0]
    exact noD_zero _
  · exact noD_all h hm _ (word_tp h hw h0).1 _ rfl
end
end K63

set_option linter.all false
set_option maxRecDepth 100000
set_option maxHeartbeats 4000000
/-! Cuts: the program. -/
namespace K63
open PySem Ev
mutual
theorem wf_up : ∀ (t : Th) (d : Nat), wf t d → wf t (d + 1)
  | .sign _, d, h => h
  | .kern _, d, h => h
  | .place _, d, h => h
  | .space _ _ _ _ _, d, h => h
  | .box l, d, h => ⟨Nat.succ_pos _, by
      obtain ⟨h1, h2⟩ := h
      obtain ⟨e, rfl⟩ : ∃ e, d = e + 1 := ⟨d - 1, by omega⟩
      exact wfs_up l e h2⟩
theorem wfs_up : ∀ (l : List Th) (d : Nat), wfs l d → wfs l (d + 1)
  | [], d, h => trivial
  | t :: l, d, h => ⟨wf_up t d h.1, wfs_up l d h.2⟩
end
theorem wfs_split : ∀ (l k : List Th) (d : Nat), wfs (l ++ k) d → wfs l d ∧ wfs k d
  | [], k, d, h => ⟨trivial, h⟩
  | t :: l, k, d, h => ⟨⟨h.1, (wfs_split l k d h.2).1⟩, (wfs_split l k d h.2).2⟩
section
variable {α : Type}
theorem sIx_nat (n d k : Nat) (h : k ≤ n) : sIx n d (some (k : Int)) = k := by
  have h1 : ¬ (k : Int) < 0 := by omega
  have h2 : min k n = k := by omega
  simp [sIx, h1, h2]
theorem cut_a (x y : List α) : cut (x ++ y) none (some (x.length : Int)) = x := by
  rw [cut_take _ _ (by rw [List.length_append]; omega), List.take_left]
theorem cut_c (x y : List α) : cut (x ++ y) (some (x.length : Int)) none = y := by
  unfold cut
  rw [sIx_nat _ _ _ (by simp)]
  show ((x ++ y).drop x.length).take ((x ++ y).length - x.length) = y
  rw [List.drop_left, List.length_append, Nat.add_sub_cancel_left, List.take_length]
end
theorem for_ret {f : D → Ev.Env → Res Fl} {x : D} {xs : List D} {r r' : Ev.Env} {t : Bool} {v : D} (h : f x r = .ok (.ret t v) r') : forL f (x :: xs) r = .ok (.ret t v) r' := by
  show (match f x r with
    | .ok .nx r' => forL f xs r'
    | .ok .cnt r' => forL f xs r'
    | .ok .brk r' => .ok .nx r'
    | .ok (.ret b v) r' => .ok (.ret b v) r'
    | .exc c d r' => .exc c d r'
    | .stuck => .stuck) = _
  rw [h]
theorem idx_natL (xs : List D) (k : Nat) (x : D) (h : xs[k]? = some x) : idx (.list xs) (.int k) = some x := by
  have hk : k < xs.length := (List.getElem?_eq_some_iff.mp h).1
  show (Ev.ixN xs.length (k : Int)).bind _ = _
  unfold Ev.ixN
  rw [if_pos (by omega), if_pos (by omega)]
  exact h
def anyI (p : Nat → Int → Bool) : Nat → List Int → Bool
  | _, [] => false
  | k, y :: r => p k y || anyI p (k + 1) r
theorem anyI_false (p : Nat → Int → Bool) : ∀ (ys : List Int) (k : Nat), anyI p k ys = false ↔ ∀ j y, ys[j]? = some y → p (k + j) y = false
  | [], k => ⟨fun _ j y h => by simp at h, fun _ => rfl⟩
  | z :: ys, k => by
    have ih := anyI_false p ys (k + 1)
    show (p k z || anyI p (k + 1) ys) = false ↔ _
    rw [Bool.or_eq_false_iff, ih]
    constructor
    · intro ⟨a, b⟩ j y h
      cases j with
      | zero =>
        have : z = y := by simpa using h
        rw [← this]
        exact a
      | succ j =>
        have := b j y (by simpa using h)
        rw [show k + (j + 1) = k + 1 + j by omega]
        exact this
    · intro h
      refine ⟨h 0 z rfl, fun j y hj => ?_⟩
      have := h (j + 1) y (by simpa using hj)
      rw [show k + 1 + j = k + (j + 1) by omega]
      exact this
def mP (n : Nat) (ex A S : Int) (k : Nat) (y : Int) : Int := if k ≤ n then (if 0 < A then ex * A / S * y / A else 0) else ex * A / S + (if A < S then (ex - ex * A / S) * (y - A) / (S - A) else 0)
def cP (n : Nat) (ex A S : Int) (k : Nat) (y : Int) : Bool := !decide (mP n ex A S k y = ex * y / S)
def cL (n : Nat) (ex A S : Int) (k : Nat) (y : Int) : Bool := (decide (k < n) && !decide (ex * A / S * y / den A = ex * y / S)) || (decide (n < k) && !decide (ex * A / S + (ex - ex * A / S) * (y - A) / den (S - A) = ex * y / S))
theorem turn18 (N : Nat) (n : Nat) (ex A S : Int) (X : D) (k : Nat) (y : Int) (hS : 0 < S) (hS2 : S ≤ 1000) (hA : 0 ≤ A) (hA2 : A ≤ S) (hy : 0 ≤ y ∧ y ≤ 1000) (s6 s7 s8 : Sl) (h6 : Free s6) (h7 : Free s7) (h8 : Free s8) :
    ((asn (.t [.n 6 false, .n 7 false]) (.d (.tuple [.int k, .int y])) [.val (.int ex), .val X, .val (.int n), .val (.int S), .val (.int A), .val (.int (ex * A / S)), s6, s7, s8]).bind fun _ r3 => evB (callN P W N) W f18_b0 r3) =
      .ok (if cP n ex A S k y = true then .ret false (.bool true) else .nx) [.val (.int ex), .val X, .val (.int n), .val (.int S), .val (.int A), .val (.int (ex * A / S)), .val (.int k), .val (.int y), .val (.int (mP n ex A S k y))] := by
  have m1 : ∀ i : Int, mulOk i y = true := fun i => mulOk_r (by omega) (by omega)
  have m2 : ∀ i : Int, mulOk i (y - A) = true := fun i => mulOk_r (by omega) (by omega)
  have d1 : S < 1073741824 := by omega
  have d2 : A < 1073741824 := by omega
  have d3 : S - A < 1073741824 := by omega
  obtain ⟨f, hf⟩ : ∃ f, f = ex * A / S := ⟨_, rfl⟩
  unfold cP mP
  rw [← hf]
  by_cases hk : k ≤ n
  · have hk' : (k : Int) ≤ n := by omega
    by_cases hz : 0 < A
    · by_cases he : f * y / A = ex * y / S
      · simp [f18_b0, sto_free h6, sto_free h7, sto_free h8, m1, m2, hk, hk', hz, he, d1, d2, hS]
      · simp [f18_b0, sto_free h6, sto_free h7, sto_free h8, m1, m2, hk, hk', hz, he, d1, d2, hS]
    · by_cases he : 0 = ex * y / S
      · simp [f18_b0, sto_free h6, sto_free h7, sto_free h8, m1, m2, hk, hk', hz, ← he, d1, d2, hS]
      · simp [f18_b0, sto_free h6, sto_free h7, sto_free h8, m1, m2, hk, hk', hz, he, d1, d2, hS]
  · have hk' : ¬ (k : Int) ≤ n := by omega
    by_cases hz : A < S
    · have hz2 : 0 < S - A := by omega
      by_cases he : f + (ex - f) * (y - A) / (S - A) = ex * y / S
      · simp [f18_b0, sto_free h6, sto_free h7, sto_free h8, m1, m2, hk, hk', hz, hz2, he, d1, d2, d3, hS]
      · simp [f18_b0, sto_free h6, sto_free h7, sto_free h8, m1, m2, hk, hk', hz, hz2, he, d1, d2, d3, hS]
    · by_cases he : f = ex * y / S
      · simp [f18_b0, sto_free h6, sto_free h7, sto_free h8, m1, m2, hk, hk', hz, ← he, d1, d2, d3, hS]
      · simp [f18_b0, sto_free h6, sto_free h7, sto_free h8, m1, m2, hk, hk', hz, he, d1, d2, d3, hS]
theorem loop18 (N : Nat) (n : Nat) (ex A S : Int) (X : D) (hS : 0 < S) (hS2 : S ≤ 1000) (hA : 0 ≤ A) (hA2 : A ≤ S) : ∀ (ys : List Int) (k : Nat) (s6 s7 s8 : Sl), (∀ y ∈ ys, 0 ≤ y ∧ y ≤ 1000) → Free s6 → Free s7 → Free s8 →
    ∃ t6 t7 t8, forL (fun x r2 => (asn (.t [.n 6 false, .n 7 false]) (.d x) r2).bind fun _ r3 => evB (callN P W N) W f18_b0 r3) (enumD k (ys.map PyData.int)) [.val (.int ex), .val X, .val (.int n), .val (.int S), .val (.int A), .val (.int (ex * A / S)), s6, s7, s8] = .ok (if anyI (cP n ex A S) k ys = true then .ret false (.bool true) else .nx) [.val (.int ex), .val X, .val (.int n), .val (.int S), .val (.int A), .val (.int (ex * A / S)), t6, t7, t8]
  | [], k, s6, s7, s8, hy, h6, h7, h8 => ⟨s6, s7, s8, rfl⟩
  | y :: ys, k, s6, s7, s8, hy, h6, h7, h8 => by
    have e := turn18 N n ex A S X k y hS hS2 hA hA2 (hy y List.mem_cons_self) s6 s7 s8 h6 h7 h8
    show ∃ t6 t7 t8, forL _ (PyData.tuple [.int k, .int y] :: enumD (k + 1) (ys.map PyData.int)) _ = .ok (if (cP n ex A S k y || anyI (cP n ex A S) (k + 1) ys) = true then _ else _) _
    by_cases hc : cP n ex A S k y = true
    · rw [if_pos hc] at e
      exact ⟨_, _, _, by rw [for_ret e, hc]; rfl⟩
    · rw [if_neg hc] at e
      obtain ⟨t6, t7, t8, e2⟩ := loop18 N n ex A S X hS hS2 hA hA2 ys (k + 1) _ _ _ (fun z hz => hy z (List.mem_cons_of_mem _ hz)) (.inr ⟨_, rfl⟩) (.inr ⟨_, rfl⟩) (.inr ⟨_, rfl⟩)
      refine ⟨t6, t7, t8, ?_⟩
      rw [for_nx e, e2]
      have : cP n ex A S k y = false := by simpa using hc
      rw [this, Bool.false_or]
/-- sums that may be cut -/
structure Sums (ys : List Int) (n : Nat) (A S : Int) : Prop where
  last : idx (.list (ys.map PyData.int)) (.int (-1)) = some (.int S)
  here : idx (.list (ys.map PyData.int)) (.int n) = some (.int A)
  bd : ∀ y ∈ ys, 0 ≤ y ∧ y ≤ 1000
  pos : 0 < S
  S2 : S ≤ 1000
  A0 : 0 ≤ A
  A2 : A ≤ S
theorem half18 {N : Nat} (hN : 1 ≤ N) {ys : List Int} {n : Nat} {A S : Int} (h : Sums ys n A S) (ex : Int) : callN P W N 18 [.val (.int ex), .val (.list (ys.map PyData.int)), .val (.int n)] = .ok false (.bool (anyI (cP n ex A S) 0 ys)) [] := by
  obtain ⟨M, rfl⟩ : ∃ M, N = M + 1 := ⟨N - 1, by omega⟩
  have i1 := h.last
  have i2 := h.here
  obtain ⟨t6, t7, t8, e⟩ := loop18 M n ex A S (.list (ys.map PyData.int)) h.pos h.S2 h.A0 h.A2 ys 0 .un .un .un h.bd (.inl rfl) (.inl rfl) (.inl rfl)
  have e2 : evS (callN P W M) W f18_l0 [.val (.int ex), .val (.list (ys.map PyData.int)), .val (.int n), .val (.int S), .val (.int A), .val (.int (ex * A / S)), .un, .un, .un] = .ok (if anyI (cP n ex A S) 0 ys = true then .ret false (.bool true) else .nx) [.val (.int ex), .val (.list (ys.map PyData.int)), .val (.int n), .val (.int S), .val (.int A), .val (.int (ex * A / S)), t6, t7, t8] := by
    rw [show f18_l0 = IS.fr (.t [.n 6 false, .n 7 false]) (.enm (.var 1)) f18_b0 from rfl, s_for]
    have ei : evI (callN P W M) (.enm (.var 1)) [.val (.int ex), .val (.list (ys.map PyData.int)), .val (.int n), .val (.int S), .val (.int A), .val (.int (ex * A / S)), .un, .un, .un] = .ok (enumD 0 (ys.map PyData.int)) [.val (.int ex), .val (.list (ys.map PyData.int)), .val (.int n), .val (.int S), .val (.int A), .val (.int (ex * A / S)), .un, .un, .un] := rfl
    rw [ei]
    exact e
  have hp := h.pos
  have hp2 : S < 1073741824 := by have := h.S2; omega
  have hm : mulOk ex A = true := mulOk_r (by have := h.A0; omega) (by have := h.A2; omega)
  obtain ⟨Y, hY⟩ : ∃ Y, Y = ys.map PyData.int := ⟨_, rfl⟩
  rw [← hY] at i1 i2 e2 ⊢
  rw [step (df := f18) rfl rfl]
  unfold f18
  obtain ⟨L, hL⟩ : ∃ L, L = f18_l0 := ⟨_, rfl⟩
  rw [← hL] at e2 ⊢
  by_cases hc : anyI (cP n ex A S) 0 ys = true
  · rw [if_pos hc] at e2
    simp [i1, i2, e2, hm, hp, hp2, hc, SZ]
  · rw [if_neg hc] at e2
    have hc' : anyI (cP n ex A S) 0 ys = false := by simpa using hc
    simp [i1, i2, e2, hm, hp, hp2, hc', SZ]
theorem turn38 (N : Nat) (n : Nat) (ex A S : Int) (X : D) (k : Nat) (y : Int) (hS : 0 < S) (hS2 : S ≤ 1000) (hA : 0 ≤ A) (hA2 : A ≤ S) (hy : 0 ≤ y ∧ y ≤ 1000) (s6 s7 : Sl) (h6 : Free s6) (h7 : Free s7) :
    ((asn (.t [.n 6 false, .n 7 false]) (.d (.tuple [.int k, .int y])) [.val X, .val (.int n), .val (.int ex), .val (.int S), .val (.int A), .val (.int (ex * A / S)), s6, s7]).bind fun _ r3 => evB (callN P W N) W f38_b0 r3) =
      .ok (if cL n ex A S k y = true then .ret false (.bool true) else .nx) [.val X, .val (.int n), .val (.int ex), .val (.int S), .val (.int A), .val (.int (ex * A / S)), .val (.int k), .val (.int y)] := by
  have m1 : ∀ i : Int, mulOk i y = true := fun i => mulOk_r (by omega) (by omega)
  have m2 : ∀ i : Int, mulOk i (y - A) = true := fun i => mulOk_r (by omega) (by omega)
  have d1 : S < 1073741824 := by omega
  have p1 : 0 < den A := den_pos A
  have p2 : 0 < den (S - A) := den_pos _
  have d2 : den A < 1073741824 := by unfold den; split <;> omega
  have d3 : den (S - A) < 1073741824 := by unfold den; split <;> omega
  have b1 : b2 .max (.int 1) (.int A) = some (.int (den A)) := rfl
  have b3 : b2 .max (.int 1) (.int (S - A)) = some (.int (den (S - A))) := rfl
  obtain ⟨f, hf⟩ : ∃ f, f = ex * A / S := ⟨_, rfl⟩
  unfold cL
  rw [← hf]
  obtain ⟨u, hu⟩ : ∃ u, u = den A := ⟨_, rfl⟩
  obtain ⟨v, hv⟩ : ∃ v, v = den (S - A) := ⟨_, rfl⟩
  rw [← hu] at p1 d2 b1 ⊢
  rw [← hv] at p2 d3 b3 ⊢
  by_cases hk : k < n
  · have hk' : (k : Int) < n := by omega
    have hk2 : ¬ n < k := by omega
    have hk2' : ¬ (n : Int) < k := by omega
    by_cases he : f * y / u = ex * y / S
    · simp [f38_b0, sto_free h6, sto_free h7, m1, m2, hk, hk', hk2, hk2', he, d1, d2, d3, p1, p2, b1, b3, hS]
    · simp [f38_b0, sto_free h6, sto_free h7, m1, m2, hk, hk', hk2, hk2', he, d1, d2, d3, p1, p2, b1, b3, hS]
  · have hk' : ¬ (k : Int) < n := by omega
    by_cases hk2 : n < k
    · have hk2' : (n : Int) < k := by omega
      by_cases he : f + (ex - f) * (y - A) / v = ex * y / S
      · simp [f38_b0, sto_free h6, sto_free h7, m1, m2, hk, hk', hk2, hk2', he, d1, d2, d3, p1, p2, b1, b3, hS]
      · simp [f38_b0, sto_free h6, sto_free h7, m1, m2, hk, hk', hk2, hk2', he, d1, d2, d3, p1, p2, b1, b3, hS]
    · have hk2' : ¬ (n : Int) < k := by omega
      simp [f38_b0, sto_free h6, sto_free h7, m1, m2, hk, hk', hk2, hk2', d1, d2, d3, p1, p2, b1, b3, hS]
theorem loop38 (N : Nat) (n : Nat) (ex A S : Int) (X : D) (hS : 0 < S) (hS2 : S ≤ 1000) (hA : 0 ≤ A) (hA2 : A ≤ S) : ∀ (ys : List Int) (k : Nat) (s6 s7 : Sl), (∀ y ∈ ys, 0 ≤ y ∧ y ≤ 1000) → Free s6 → Free s7 →
    ∃ t6 t7, forL (fun x r2 => (asn (.t [.n 6 false, .n 7 false]) (.d x) r2).bind fun _ r3 => evB (callN P W N) W f38_b0 r3) (enumD k (ys.map PyData.int)) [.val X, .val (.int n), .val (.int ex), .val (.int S), .val (.int A), .val (.int (ex * A / S)), s6, s7] = .ok (if anyI (cL n ex A S) k ys = true then .ret false (.bool true) else .nx) [.val X, .val (.int n), .val (.int ex), .val (.int S), .val (.int A), .val (.int (ex * A / S)), t6, t7]
  | [], k, s6, s7, hy, h6, h7 => ⟨s6, s7, rfl⟩
  | y :: ys, k, s6, s7, hy, h6, h7 => by
    have e := turn38 N n ex A S X k y hS hS2 hA hA2 (hy y List.mem_cons_self) s6 s7 h6 h7
    show ∃ t6 t7, forL _ (PyData.tuple [.int k, .int y] :: enumD (k + 1) (ys.map PyData.int)) _ = .ok (if (cL n ex A S k y || anyI (cL n ex A S) (k + 1) ys) = true then _ else _) _
    by_cases hc : cL n ex A S k y = true
    · rw [if_pos hc] at e
      exact ⟨_, _, by rw [for_ret e, hc]; rfl⟩
    · rw [if_neg hc] at e
      obtain ⟨t6, t7, e2⟩ := loop38 N n ex A S X hS hS2 hA hA2 ys (k + 1) _ _ (fun z hz => hy z (List.mem_cons_of_mem _ hz)) (.inr ⟨_, rfl⟩) (.inr ⟨_, rfl⟩)
      refine ⟨t6, t7, ?_⟩
      rw [for_nx e, e2]
      have : cL n ex A S k y = false := by simpa using hc
      rw [this, Bool.false_or]
theorem drift38 {N : Nat} (hN : 1 ≤ N) {ys : List Int} {n : Nat} {A S : Int} (h : Sums ys n A S) (ex : Int) : callN P W N 38 [.val (.list (ys.map PyData.int)), .val (.int n), .val (.int ex)] = .ok false (.bool (anyI (cL n ex A S) 0 ys)) [] := by
  obtain ⟨M, rfl⟩ : ∃ M, N = M + 1 := ⟨N - 1, by omega⟩
  have i1 := h.last
  have i2 := h.here
  obtain ⟨t6, t7, e⟩ := loop38 M n ex A S (.list (ys.map PyData.int)) h.pos h.S2 h.A0 h.A2 ys 0 .un .un h.bd (.inl rfl) (.inl rfl)
  have e2 : evS (callN P W M) W f38_l0 [.val (.list (ys.map PyData.int)), .val (.int n), .val (.int ex), .val (.int S), .val (.int A), .val (.int (ex * A / S)), .un, .un] = .ok (if anyI (cL n ex A S) 0 ys = true then .ret false (.bool true) else .nx) [.val (.list (ys.map PyData.int)), .val (.int n), .val (.int ex), .val (.int S), .val (.int A), .val (.int (ex * A / S)), t6, t7] := by
    rw [show f38_l0 = IS.fr (.t [.n 6 false, .n 7 false]) (.enm (.var 0)) f38_b0 from rfl, s_for]
    have ei : evI (callN P W M) (.enm (.var 0)) [.val (.list (ys.map PyData.int)), .val (.int n), .val (.int ex), .val (.int S), .val (.int A), .val (.int (ex * A / S)), .un, .un] = .ok (enumD 0 (ys.map PyData.int)) [.val (.list (ys.map PyData.int)), .val (.int n), .val (.int ex), .val (.int S), .val (.int A), .val (.int (ex * A / S)), .un, .un] := rfl
    rw [ei]
    exact e
  have hp := h.pos
  have hp2 : S < 1073741824 := by have := h.S2; omega
  have hm : mulOk ex A = true := mulOk_r (by have := h.A0; omega) (by have := h.A2; omega)
  obtain ⟨Y, hY⟩ : ∃ Y, Y = ys.map PyData.int := ⟨_, rfl⟩
  rw [← hY] at i1 i2 e2 ⊢
  rw [step (df := f38) rfl rfl]
  unfold f38
  obtain ⟨L, hL⟩ : ∃ L, L = f38_l0 := ⟨_, rfl⟩
  rw [← hL] at e2 ⊢
  by_cases hc : anyI (cL n ex A S) 0 ys = true
  · rw [if_pos hc] at e2
    simp [i1, i2, e2, hm, hp, hp2, hc, SZ]
  · rw [if_neg hc] at e2
    have hc' : anyI (cL n ex A S) 0 ys = false := by simpa using hc
    simp [i1, i2, e2, hm, hp, hp2, hc', SZ]
end K63

set_option linter.all false
set_option maxRecDepth 100000
set_option maxHeartbeats 4000000
/-! Which cuts may be. -/
namespace K63
open PySem Ev
section
variable {a c : List Th} {d : Nat}
abbrev rsU (up : Bool) (a c : List Th) : List Int := runs 0 (ru up (a ++ c))
theorem runs_split (up : Bool) : rsU up a c = ysL (gs up a c) 0 a ++ (ysL (gs up a c) (sA up a c) c ++ [sA up a c + sB up a c]) := by
  show runs 0 ((a ++ c).map (gs up a c)) = _
  rw [runs_ys, ysL_app, Int.zero_add, Int.zero_add, List.append_assoc, List.map_append, List.sum_append]
  rfl
theorem sS_bd (up : Bool) (h : wfs (a ++ c) d) (hc : cnts (a ++ c) ≤ 100) : sS up a c ≤ 700 := (ru_sum (up := up) h hc).2
theorem sums_ok (up : Bool) (h : wfs (a ++ c) d) (hc : cnts (a ++ c) ≤ 100) (h0 : 0 < sS up a c) : Sums (rsU up a c) a.length (sA up a c) (sS up a c) := by
  have hA := sA_nn (up := up) h
  have hB := sB_nn (up := up) h
  have hS := sAB (a := a) (c := c) up
  have hS2 := sS_bd up h hc
  refine ⟨runs_idx _, ?_, fun y hy => ?_, h0, by omega, hA, by omega⟩
  · refine idx_natL _ _ _ ?_
    rw [List.getElem?_map, runs_get _ _ _ (by unfold ru; simp)]
    have t2 : (ru up (a ++ c)).take a.length = a.map (gs up a c) := by
      show ((a ++ c).map (gs _ a c)).take a.length = _
      rw [← List.map_take, List.take_left]
    rw [t2, Int.zero_add]
    rfl
  · have n1 := gs_nn (up := up) h
    rw [runs_split] at hy
    rcases List.mem_append.mp hy with hy | hy
    · have b := ys_bd a 0 (fun t ht => n1 t (mem_l t ht)) y hy
      have b2 : y ≤ 0 + sA up a c := b.2
      omega
    · rcases List.mem_append.mp hy with hy | hy
      · have b := ys_bd c (sA up a c) (fun t ht => n1 t (mem_r t ht)) y hy
        have b2 : y ≤ sA up a c + sB up a c := b.2
        omega
      · have : y = sA up a c + sB up a c := by simpa using hy
        omega
theorem any_noD (up : Bool) (h : wfs (a ++ c) d) (h0 : 0 < sS up a c) (ex : Int) (p : Nat → Int → Bool) (p1 : ∀ j y, j < a.length → 0 ≤ y → y ≤ sA up a c → (p j y = false ↔ h1 ex (sA up a c) (sS up a c) y = dd ex (sS up a c) y))
    (p2 : p a.length (sA up a c) = false) (p3 : ∀ j y, a.length < j → sA up a c ≤ y → y ≤ sS up a c → (p j y = false ↔ h2 ex (sA up a c) (sB up a c) (sS up a c) y = dd ex (sS up a c) y)) : anyI p 0 (rsU up a c) = false ↔ noD up a c ex := by
  have hA := sA_nn (up := up) h
  have hB := sB_nn (up := up) h
  have hS := sAB (a := a) (c := c) up
  have n1 := gs_nn (up := up) h
  have l1 := ysL_len (gs up a c) a 0
  have l2 := ysL_len (gs up a c) c (sA up a c)
  have bda : ∀ y ∈ ysL (gs up a c) 0 a, 0 ≤ y ∧ y ≤ sA up a c := fun y hy => by
    have b := ys_bd a 0 (fun t ht => n1 t (mem_l t ht)) y hy
    have b2 : y ≤ 0 + sA up a c := b.2
    omega
  have bdc : ∀ y ∈ ysL (gs up a c) (sA up a c) c, sA up a c ≤ y ∧ y ≤ sS up a c := fun y hy => by
    have b := ys_bd c (sA up a c) (fun t ht => n1 t (mem_r t ht)) y hy
    have b2 : y ≤ sA up a c + sB up a c := b.2
    omega
  have hd0 : ∀ y, (ysL (gs up a c) (sA up a c) c ++ [sA up a c + sB up a c])[0]? = some y → y = sA up a c := fun y hy => by
    cases hcc : c with
    | nil =>
      have hz : sB up a c = 0 := by unfold sB; rw [hcc]; rfl
      rw [hz] at hy
      have hy' : (ysL (gs up a c) (sA up a c) c ++ [sA up a c + 0])[0]? = some y := hy
      have e : ysL (gs up a c) (sA up a c) c = [] := by
        have : (ysL (gs up a c) (sA up a c) c).length = 0 := by rw [l2, hcc]; rfl
        exact List.eq_nil_of_length_eq_zero this
      rw [e] at hy'
      simp at hy'
      rw [hcc] at hy'
      omega
    | cons t r =>
      have e : ∃ z, ysL (gs up a c) (sA up a c) c = sA up a c :: z := by
        have : ∀ (g : Th → Int) (y : Int) (m : List Th), m = t :: r → ∃ z, ysL g y m = y :: z := fun g y m hm => by
          subst hm
          exact ⟨_, rfl⟩
        exact this _ _ _ hcc
      obtain ⟨z, e⟩ := e
      rw [e] at hy
      rw [← hcc]
      simpa using hy.symm
  rw [anyI_false]
  constructor
  · intro hall
    refine ⟨fun y hy => ?_, fun y hy => ?_⟩
    · obtain ⟨j, hj⟩ := List.mem_iff_getElem?.mp hy
      have hjl := (List.getElem?_eq_some_iff.mp hj).1
      have := hall j y (by rw [runs_split, List.getElem?_append_left hjl]; exact hj)
      rw [Nat.zero_add] at this
      exact (p1 j y (by omega) (bda y hy).1 (bda y hy).2).mp this
    · obtain ⟨j, hj⟩ := List.mem_iff_getElem?.mp hy
      have hjl := (List.getElem?_eq_some_iff.mp hj).1
      have hj2 : (ysL (gs up a c) (sA up a c) c ++ [sA up a c + sB up a c])[j]? = some y := by rw [List.getElem?_append_left hjl]; exact hj
      by_cases hz : j = 0
      · subst hz
        rw [hd0 y hj2]
        exact h2_start hA hB hS h0
      · have := hall (a.length + j) y (by
          rw [runs_split, List.getElem?_append_right (by omega), l1, Nat.add_sub_cancel_left]
          exact hj2)
        rw [Nat.zero_add] at this
        exact (p3 _ y (by omega) (bdc y hy).1 (bdc y hy).2).mp this
  · intro hn j y hj
    rw [Nat.zero_add]
    rw [runs_split] at hj
    by_cases hlt : j < a.length
    · rw [List.getElem?_append_left (by omega)] at hj
      have hy := List.mem_of_getElem? hj
      exact (p1 j y hlt (bda y hy).1 (bda y hy).2).mpr (hn.1 y hy)
    · rw [List.getElem?_append_right (by omega), l1] at hj
      by_cases he : j = a.length
      · subst he
        rw [Nat.sub_self] at hj
        rw [hd0 y hj]
        exact p2
      · have hy := List.mem_of_getElem? hj
        rcases List.mem_append.mp hy with hy | hy
        · exact (p3 j y (by omega) (bdc y hy).1 (bdc y hy).2).mpr (hn.2 y hy)
        · have e : y = sS up a c := by
            have : y = sA up a c + sB up a c := by simpa using hy
            omega
          rw [e]
          exact (p3 j _ (by omega) (by omega) (Int.le_refl _)).mpr (h2_end hA hB hS h0)
theorem cP_noD (up : Bool) (h : wfs (a ++ c) d) (h0 : 0 < sS up a c) (ex : Int) : anyI (cP a.length ex (sA up a c) (sS up a c)) 0 (rsU up a c) = false ↔ noD up a c ex := by
  have hA := sA_nn (up := up) h
  have hB := sB_nn (up := up) h
  have hS := sAB (a := a) (c := c) up
  have hf : ex * sA up a c / sS up a c = fst ex (sA up a c) (sS up a c) := by unfold fst; rw [den_eq h0]
  have hdd : ∀ y, ex * y / sS up a c = dd ex (sS up a c) y := fun y => by unfold dd; rw [den_eq h0]
  refine any_noD up h h0 ex _ (fun j y hj y0 y1 => ?_) ?_ (fun j y hj y0 y1 => ?_)
  · unfold cP mP
    rw [if_pos (by omega), hf, hdd]
    have : (if 0 < sA up a c then fst ex (sA up a c) (sS up a c) * y / sA up a c else 0) = h1 ex (sA up a c) (sS up a c) y := by
      unfold h1
      by_cases hz : 0 < sA up a c
      · rw [if_pos hz, den_eq hz]
      · have : y = 0 := by omega
        rw [if_neg hz, this, Int.mul_zero, Int.zero_ediv]
    rw [this]
    simp
  · unfold cP mP
    rw [if_pos (Nat.le_refl _), hf]
    have : (if 0 < sA up a c then fst ex (sA up a c) (sS up a c) * sA up a c / sA up a c else 0) = fst ex (sA up a c) (sS up a c) := by
      by_cases hz : 0 < sA up a c
      · rw [if_pos hz, Int.mul_ediv_cancel _ (by omega)]
      · rw [if_neg hz, fst_A0 hA hB hS h0 (by omega)]
    rw [this]
    simp
  · unfold cP mP
    rw [if_neg (by omega), hf, hdd]
    have : fst ex (sA up a c) (sS up a c) + (if sA up a c < sS up a c then (ex - fst ex (sA up a c) (sS up a c)) * (y - sA up a c) / (sS up a c - sA up a c) else 0) = h2 ex (sA up a c) (sB up a c) (sS up a c) y := by
      unfold h2
      have hb : sS up a c - sA up a c = sB up a c := by omega
      by_cases hz : sA up a c < sS up a c
      · rw [if_pos hz, hb, den_eq (by omega)]
      · have : y - sA up a c = 0 := by omega
        rw [if_neg hz, this, Int.mul_zero, Int.zero_ediv]
    rw [this]
    simp
theorem cL_noD (up : Bool) (h : wfs (a ++ c) d) (h0 : 0 < sS up a c) (ex : Int) : anyI (cL a.length ex (sA up a c) (sS up a c)) 0 (rsU up a c) = false ↔ noD up a c ex := by
  have hA := sA_nn (up := up) h
  have hB := sB_nn (up := up) h
  have hS := sAB (a := a) (c := c) up
  have hf : ex * sA up a c / sS up a c = fst ex (sA up a c) (sS up a c) := by unfold fst; rw [den_eq h0]
  have hdd : ∀ y, ex * y / sS up a c = dd ex (sS up a c) y := fun y => by unfold dd; rw [den_eq h0]
  have hb : sS up a c - sA up a c = sB up a c := by omega
  refine any_noD up h h0 ex _ (fun j y hj y0 y1 => ?_) ?_ (fun j y hj y0 y1 => ?_)
  · unfold cL
    rw [hf, hdd, hb]
    have n : ¬ a.length < j := by omega
    show _ ↔ h1 _ _ _ _ = _
    unfold h1
    simp [hj, n]
  · unfold cL
    simp
  · unfold cL
    rw [hf, hdd, hb]
    have n : ¬ j < a.length := by omega
    unfold h2
    simp [hj, n]
end
/-- the first that is so -/
def fnd (p : Int → Bool) : Int → Nat → Option Int
  | _, 0 => none
  | i, n + 1 => if p i = true then some i else fnd p (i + 1) n
theorem fnd_none (p : Int → Bool) : ∀ (n : Nat) (i : Int), fnd p i n = none ↔ ∀ e, i ≤ e → e < i + n → p e = false
  | 0, i => ⟨fun _ e h1 h2 => by omega, fun _ => rfl⟩
  | n + 1, i => by
    show (if p i = true then some i else fnd p (i + 1) n) = none ↔ _
    by_cases hp : p i = true
    · rw [if_pos hp]
      refine ⟨fun h => (nomatch h), fun h => ?_⟩
      rw [h i (Int.le_refl _) (by omega)] at hp
      exact nomatch hp
    · rw [if_neg hp, fnd_none p n (i + 1)]
      constructor
      · intro h e h1 h2
        by_cases he : e = i
        · rw [he]
          simpa using hp
        · exact h e (by omega) (by omega)
      · intro h e h1 h2
        exact h e (by omega) (by omega)
theorem fnd_some (p : Int → Bool) : ∀ (n : Nat) (i e : Int), fnd p i n = some e → i ≤ e ∧ e < i + n ∧ p e = true
  | 0, i, e, h => nomatch h
  | n + 1, i, e, h => by
    have h' : (if p i = true then some i else fnd p (i + 1) n) = some e := h
    by_cases hp : p i = true
    · rw [if_pos hp] at h'
      injection h' with h'
      subst h'
      exact ⟨Int.le_refl _, by omega, hp⟩
    · rw [if_neg hp] at h'
      have := fnd_some p n (i + 1) e h'
      exact ⟨by omega, by omega, this.2.2⟩
section
variable {a c : List Th} {d : Nat}
def pP (up : Bool) (a c : List Th) (e : Int) : Bool := anyI (cP a.length (sg up * e) (sA up a c) (sS up a c)) 0 (rsU up a c)
def pL (up : Bool) (a c : List Th) (e : Int) : Bool := anyI (cL a.length (sg up * e) (sA up a c) (sS up a c)) 0 (rsU up a c)
def fP (up : Bool) (a c : List Th) : Option Int := fnd (pP up a c) 1 (sS up a c - 1).toNat
def fL (up : Bool) (a c : List Th) : Option Int := fnd (pL up a c) 1 (sS up a c).toNat
def cutD (a c : List Th) : D := match fP true a c with
  | some e => .int (wds (a ++ c) + 1 * e)
  | none => match fP false a c with
    | some e => .int (wds (a ++ c) + -1 * e)
    | none => .none
def mayL (a c : List Th) : Bool := (fL true a c).isNone && (fL false a c).isNone
theorem noD_end (up : Bool) (h : wfs (a ++ c) d) (h0 : 0 < sS up a c) : noD up a c (sg up * sS up a c) := by
  have := noD_per h h0 0 (sg up) (noD_zero up)
  rw [Int.zero_add] at this
  exact this
theorem fP_none (up : Bool) (h : wfs (a ++ c) d) : fP up a c = none ↔ ∀ r : Int, 1 ≤ r → r < sS up a c → noD up a c (sg up * r) := by
  unfold fP
  rw [fnd_none]
  constructor
  · intro hh r r1 r2
    exact (cP_noD up h (by omega) _).mp (hh r r1 (by omega))
  · intro hh e e1 e2
    exact (cP_noD up h (by omega) _).mpr (hh e e1 (by omega))
theorem fL_none (up : Bool) (h : wfs (a ++ c) d) : fL up a c = none ↔ ∀ r : Int, 1 ≤ r → r < sS up a c → noD up a c (sg up * r) := by
  unfold fL
  rw [fnd_none]
  constructor
  · intro hh r r1 r2
    exact (cL_noD up h (by omega) _).mp (hh r r1 (by omega))
  · intro hh e e1 e2
    have h0 : 0 < sS up a c := by omega
    refine (cL_noD up h h0 _).mpr ?_
    by_cases he : e = sS up a c
    · rw [he]
      exact noD_end up h h0
    · exact hh e e1 (by omega)
theorem fP_some (up : Bool) (h : wfs (a ++ c) d) {e : Int} (he : fP up a c = some e) : 1 ≤ e ∧ e < sS up a c ∧ ¬ noD up a c (sg up * e) := by
  obtain ⟨h1, h2, h3⟩ := fnd_some _ _ _ _ he
  refine ⟨h1, by omega, fun z => ?_⟩
  have := (cP_noD up h (by omega) _).mpr z
  unfold pP at h3
  rw [this] at h3
  exact nomatch h3
/-- both tell the same -/
theorem cut_may (h : wfs (a ++ c) d) : isOf (cutD a c) .none = some (mayL a c) ∧ (mayL a c = true → mayC a c ∧ cutD a c = .none) ∧ (mayL a c = false → ∃ (up : Bool) (e : Int), cutD a c = .int (wds (a ++ c) + sg up * e) ∧ 1 ≤ e ∧ e < sS up a c ∧ ¬ noD up a c (sg up * e)) := by
  have pt := fP_none true h
  have pf := fP_none false h
  have lt' := fL_none true h
  have lf := fL_none false h
  unfold cutD mayL
  cases h1 : fP true a c with
  | some e =>
    have hn : fL true a c ≠ none := fun z => by
      rw [pt.mpr (lt'.mp z)] at h1
      exact nomatch h1
    have hn' : (fL true a c).isNone = false := by
      cases hh : fL true a c with
      | none => exact absurd hh hn
      | some x => rfl
    rw [hn']
    exact ⟨rfl, fun z => (nomatch z), fun _ => ⟨true, e, rfl, fP_some true h h1⟩⟩
  | none =>
    have e1 : fL true a c = none := lt'.mpr (pt.mp h1)
    rw [e1]
    cases h2 : fP false a c with
    | some e =>
      have hn : fL false a c ≠ none := fun z => by
        rw [pf.mpr (lf.mp z)] at h2
        exact nomatch h2
      have hn' : (fL false a c).isNone = false := by
        cases hh : fL false a c with
        | none => exact absurd hh hn
        | some x => rfl
      rw [hn']
      exact ⟨rfl, fun z => (nomatch z), fun _ => ⟨false, e, rfl, fP_some false h h2⟩⟩
    | none =>
      have e2 : fL false a c = none := lf.mpr (pf.mp h2)
      rw [e2]
      refine ⟨rfl, fun _ => ⟨fun up r r1 r2 => ?_, rfl⟩, fun z => nomatch z⟩
      cases up
      · exact pf.mp h2 r r1 r2
      · exact pt.mp h1 r r1 r2
end
end K63

set_option linter.all false
set_option maxRecDepth 100000
set_option maxHeartbeats 4000000
/-! Cuts: the program and the law. -/
namespace K63
open PySem Ev
theorem need17 {N : Nat} (hN : 2 ≤ N) (i lo hi : Int) (h1 : lo ≤ i) (h2 : i ≤ hi) : callN P W N 17 [.val (.int i), .val (.int lo), .val (.int hi)] = .ok false .none [] := by
  obtain ⟨M, rfl⟩ : ∃ M, N = M + 1 := ⟨N - 1, by omega⟩
  have e1 := whole0 (N := M) (by omega) i lo hi h1 h2
  rw [step (df := f17) rfl rfl]
  simp [f17, e1]
theorem rg2_gen {call : Nat → List Sl → CR} {x y : IE} {r : Ev.Env} {i j : Int} (h1 : (ev call x).1 r = .ok (.d (.int i)) r) (h2 : (ev call y).1 r = .ok (.d (.int j)) r) (hi : small62 i = true) (hj : small62 j = true) : evI call (.rg2 x y) r = .ok (rng i (j - i).toNat) r := by
  rw [i_rg2, h1, bind_ok', h2, bind_ok', deref_d, deref_d, rgK2_i, if_pos (by rw [hi, hj]; rfl)]
theorem rg1_gen {call : Nat → List Sl → CR} {x : IE} {r r' : Ev.Env} {j : Int} (h1 : (ev call x).1 r = .ok (.d (.int j)) r') (hj : small62 j = true) : evI call (.rg1 x) r = .ok (rng 0 j.toNat) r' := by
  rw [i_rg1, h1, bind_ok', deref_d, rgK_i, if_pos hj]
theorem rng_range : ∀ (n : Nat) (i : Int), rng i n = (List.range n).map fun k : Nat => .int (i + k)
  | 0, i => rfl
  | n + 1, i => by
    show PyData.int i :: rng (i + 1) n = _
    rw [rng_range n (i + 1), List.range_succ_eq_map, List.map_cons, List.map_map]
    congr 1
    · show PyData.int i = .int (i + ((0 : Nat) : Int))
      rw [Int.natCast_zero, Int.add_zero]
    · apply List.map_congr_left
      intro k _
      show PyData.int (i + 1 + k) = .int (i + ((k + 1 : Nat) : Int))
      congr 1
      omega
theorem runs_range (R : List Int) : ((List.range (R.length + 1)).map fun i => (R.take i).sum) = runs 0 R := by
  apply List.ext_getElem?
  intro j
  by_cases hj : j ≤ R.length
  · rw [runs_get R 0 j hj, List.getElem?_map, List.getElem?_range (by omega), Int.zero_add]
    rfl
  · rw [List.getElem?_eq_none (by rw [List.length_map, List.length_range]; omega), List.getElem?_eq_none (by rw [runs_len]; omega)]
section
variable {a c : List Th} {d : Nat}
abbrev lI (up : Bool) (a c : List Th) : D := .list ((rsU up a c).map PyData.int)
abbrev S19 (a c : List Th) (s2 s3 s4 s5 : Sl) : Ev.Env := [.val (.tuple (encs (a ++ c))), .val (.int a.length), s2, s3, s4, s5]
theorem sg_cases (up : Bool) : sg up = 1 ∨ sg up = -1 := by cases up; exact .inr rfl; exact .inl rfl
theorem loop19 {N : Nat} (hN : 2 * d + 2 ≤ N) (up : Bool) (h : wfs (a ++ c) d) (hc : cnts (a ++ c) ≤ 100) : ∀ (n : Nat) (i : Int) (s5 : Sl), Free s5 → (n = 0 ∨ 0 < sS up a c) →
    ∃ t5, Free t5 ∧ forL (fun x r2 => (asn (.n 5 false) (.d x) r2).bind fun _ r3 => evB (callN P W N) W f19_b0 r3) (rng i n) (S19 a c (.val (.int (wy up))) (.val (.int (sg up))) (.val (lI up a c)) s5) = .ok (match fnd (pP up a c) i n with | some e => .ret false (.int (wds (a ++ c) + sg up * e)) | none => .nx) (S19 a c (.val (.int (wy up))) (.val (.int (sg up))) (.val (lI up a c)) t5)
  | 0, i, s5, h5, hz => ⟨s5, h5, rfl⟩
  | n + 1, i, s5, h5, hz => by
    have h0 : 0 < sS up a c := by omega
    have e1 := half18 (N := N) (by omega) (sums_ok up h hc h0) (sg up * i)
    have e2 := (wide_all d).2 N (by omega) (a ++ c) h hc
    have hm : mulOk (sg up) i = true := by rcases sg_cases up with e | e <;> rw [e] <;> exact mulOk_l (by decide) (by decide)
    have et : ((asn (.n 5 false) (.d (.int i)) (S19 a c (.val (.int (wy up))) (.val (.int (sg up))) (.val (lI up a c)) s5)).bind fun _ r3 => evB (callN P W N) W f19_b0 r3) = .ok (if pP up a c i = true then .ret false (.int (wds (a ++ c) + sg up * i)) else .nx) (S19 a c (.val (.int (wy up))) (.val (.int (sg up))) (.val (lI up a c)) (.val (.int i))) := by
      unfold pP
      unfold S19 lI
      obtain ⟨Y, hY⟩ : ∃ Y, Y = (rsU up a c).map PyData.int := ⟨_, rfl⟩
      obtain ⟨L, hL⟩ : ∃ L, L = encs (a ++ c) := ⟨_, rfl⟩
      obtain ⟨q, hq⟩ : ∃ q, q = anyI (cP a.length (sg up * i) (sA up a c) (sS up a c)) 0 (rsU up a c) := ⟨_, rfl⟩
      rw [← hY, ← hq] at e1
      rw [← hL] at e2
      rw [← hY, ← hL, ← hq]
      cases q
      · simp [f19_b0, sto_free h5, e1, e2, hm]
      · simp [f19_b0, sto_free h5, e1, e2, hm]
    show ∃ t5, Free t5 ∧ forL _ (PyData.int i :: rng (i + 1) n) _ = .ok (match (if pP up a c i = true then some i else fnd (pP up a c) (i + 1) n) with | some e => .ret false (.int (wds (a ++ c) + sg up * e)) | none => .nx) _
    by_cases hp : pP up a c i = true
    · rw [if_pos hp] at et ⊢
      exact ⟨_, .inr ⟨_, rfl⟩, for_ret et⟩
    · rw [if_neg hp] at et ⊢
      obtain ⟨t5, k5, e3⟩ := loop19 hN up h hc n (i + 1) (.val (.int i)) (.inr ⟨_, rfl⟩) (.inr h0)
      exact ⟨t5, k5, by rw [for_nx et]; exact e3⟩
theorem turn19 {N : Nat} (hN : 2 * d + 5 ≤ N) (up : Bool) (h : wfs (a ++ c) d) (hc : cnts (a ++ c) ≤ 100) (s2 s3 s4 s5 : Sl) (h2 : Free s2) (h3 : Free s3) (h4 : Free s4) (h5 : Free s5) :
    ∃ t5, Free t5 ∧ ((asn (.t [.n 2 false, .n 3 false]) (.d (.tuple [.int (wy up), .int (sg up)])) (S19 a c s2 s3 s4 s5)).bind fun _ r3 => evB (callN P W N) W f19_b1 r3) = .ok (match fP up a c with | some e => .ret false (.int (wds (a ++ c) + sg up * e)) | none => .nx) (S19 a c (.val (.int (wy up))) (.val (.int (sg up))) (.val (lI up a c)) t5) := by
  have e1 := am13 (N := N) (by omega) up (a ++ c) h hc
  have hrl : (ru up (a ++ c)).length ≤ 100 := by
    unfold ru
    rw [List.length_map]
    have := len_cnts (a ++ c)
    omega
  have e2 := sums14 (N := N) (by omega) (ru up (a ++ c)) (by omega)
  have hA := sA_nn (up := up) h
  have hB := sB_nn (up := up) h
  have hS := sAB (a := a) (c := c) up
  have hS2 := sS_bd up h hc
  obtain ⟨t5, k5, e3⟩ := loop19 (N := N) (d := d) (by omega) up h hc (sS up a c - 1).toNat 1 s5 h5 (by omega)
  have e4 : evS (callN P W N) W f19_l0 (S19 a c (.val (.int (wy up))) (.val (.int (sg up))) (.val (lI up a c)) s5) = .ok (match fP up a c with | some e => .ret false (.int (wds (a ++ c) + sg up * e)) | none => .nx) (S19 a c (.val (.int (wy up))) (.val (.int (sg up))) (.val (lI up a c)) t5) := by
    rw [show f19_l0 = IS.fr (.n 5 false) (.rg2 (.cst (.int 1)) (.idx (.var 4) (.neg (.cst (.int 1))))) f19_b0 from rfl, s_for]
    have i1 : idx (lI up a c) (.int (-1)) = some (.int (sS up a c)) := runs_idx _
    have h1 : (ev (callN P W N) (.idx (.var 4) (.neg (.cst (.int 1))))).1 (S19 a c (.val (.int (wy up))) (.val (.int (sg up))) (.val (lI up a c)) s5) = .ok (.d (.int (sS up a c))) (S19 a c (.val (.int (wy up))) (.val (.int (sg up))) (.val (lI up a c)) s5) := by
      obtain ⟨Y, hY⟩ : ∃ Y, Y = lI up a c := ⟨_, rfl⟩
      rw [← hY] at i1 ⊢
      simp [S19, i1]
    have h0 : (ev (callN P W N) (.cst (.int 1))).1 (S19 a c (.val (.int (wy up))) (.val (.int (sg up))) (.val (lI up a c)) s5) = .ok (.d (.int 1)) (S19 a c (.val (.int (wy up))) (.val (.int (sg up))) (.val (lI up a c)) s5) := rfl
    rw [rg2_gen h0 h1 (by decide +kernel) (small (by omega) (by omega)), bind_ok']
    exact e3
  have key : ((asn (.t [.n 2 false, .n 3 false]) (.d (.tuple [.int (wy up), .int (sg up)])) (S19 a c s2 s3 s4 s5)).bind fun _ r3 => evB (callN P W N) W f19_b1 r3) = seqK (evS (callN P W N) W f19_l0 (S19 a c (.val (.int (wy up))) (.val (.int (sg up))) (.val (lI up a c)) s5)) (evB (callN P W N) W .nil) := by
    rw [show f19_b1 = IB.cons (.asg (.n 4 false) (.call 14 "sums_ahead" (.cons (.call 13 "amounts_of" (.cons (.var 0) (.cons (.var 2) .nil))) .nil))) (.cons f19_l0 .nil) from rfl]
    obtain ⟨Z, hZ⟩ : ∃ Z, Z = f19_l0 := ⟨_, rfl⟩
    rw [← hZ]
    unfold S19 lI
    obtain ⟨L, hL⟩ : ∃ L, L = encs (a ++ c) := ⟨_, rfl⟩
    obtain ⟨R, hR⟩ : ∃ R, R = (ru up (a ++ c)).map PyData.int := ⟨_, rfl⟩
    obtain ⟨Y, hY⟩ : ∃ Y, Y = (rsU up a c).map PyData.int := ⟨_, rfl⟩
    rw [← hL, ← hR] at e1
    rw [← hR] at e2
    rw [show (runs 0 (ru up (a ++ c))).map PyData.int = Y from hY.symm] at e2
    rw [← hL, ← hY]
    simp [sto_free h2, sto_free h3, sto_free h4, e1, e2]
  have hF : ∀ {m : Option Int}, seqK (.ok (match m with | some e => Fl.ret false (.int (wds (a ++ c) + sg up * e)) | none => .nx) (S19 a c (.val (.int (wy up))) (.val (.int (sg up))) (.val (lI up a c)) t5)) (evB (callN P W N) W .nil) = .ok (match m with | some e => .ret false (.int (wds (a ++ c) + sg up * e)) | none => .nx) (S19 a c (.val (.int (wy up))) (.val (.int (sg up))) (.val (lI up a c)) t5) := by
    intro m
    cases m <;> rfl
  refine ⟨t5, k5, ?_⟩
  rw [key, e4]
  exact hF
theorem cut19 {N : Nat} (hN : 2 * d + 6 ≤ N) (h : wfs (a ++ c) d) (hc : cnts (a ++ c) ≤ 100) : callN P W N 19 [.val (.tuple (encs (a ++ c))), .val (.int a.length)] = .ok false (cutD a c) [] := by
  obtain ⟨M, rfl⟩ : ∃ M, N = M + 1 := ⟨N - 1, by omega⟩
  obtain ⟨t5, k5, t1⟩ := turn19 (N := M) (d := d) (by omega) true h hc .un .un .un .un (.inl rfl) (.inl rfl) (.inl rfl) (.inl rfl)
  obtain ⟨t6, k6, t2⟩ := turn19 (N := M) (d := d) (by omega) false h hc (.val (.int (wy true))) (.val (.int (sg true))) (.val (lI true a c)) t5 (.inr ⟨_, rfl⟩) (.inr ⟨_, rfl⟩) (.inr ⟨_, rfl⟩) k5
  have ei : evI (callN P W M) (.val (.tup (.cons (.tup (.cons (.glob "STRETCH" (.int 2)) (.cons (.cst (.int 1)) .nil))) (.cons (.tup (.cons (.glob "SHRINK" (.int 4)) (.cons (.neg (.cst (.int 1))) .nil))) .nil)))) (S19 a c .un .un .un .un) = .ok [.tuple [.int (wy true), .int (sg true)], .tuple [.int (wy false), .int (sg false)]] (S19 a c .un .un .un .un) := by
    simp [SZ, itemsOf, wy, sg]
  rw [step (df := f19) rfl rfl]
  rw [show f19.body = IB.cons f19_l1 (.cons (.ret (.cst .none)) .nil) from rfl]
  rw [show ([Sl.val (.tuple (encs (a ++ c))), .val (.int a.length)] ++ List.replicate (f19.names.length - f19.np) .un : Ev.Env) = S19 a c .un .un .un .un from rfl]
  rw [b_cons, show f19_l1 = IS.fr (.t [.n 2 false, .n 3 false]) (.val (.tup (.cons (.tup (.cons (.glob "STRETCH" (.int 2)) (.cons (.cst (.int 1)) .nil))) (.cons (.tup (.cons (.glob "SHRINK" (.int 4)) (.cons (.neg (.cst (.int 1))) .nil))) .nil)))) f19_b1 from rfl, s_for, ei, bind_ok']
  unfold cutD
  cases h1 : fP true a c with
  | some e =>
    rw [h1] at t1
    rw [for_ret t1]
    simp [sg]
  | none =>
    rw [h1] at t1
    rw [for_nx t1]
    cases h2 : fP false a c with
    | some e =>
      rw [h2] at t2
      rw [for_ret t2]
      simp [sg]
    | none =>
      rw [h2] at t2
      rw [for_nx t2, for_end]
      simp
theorem cut_need {N : Nat} (hN : 6 ≤ N) (h : wfs (a ++ c) 2) (hc : cnts (a ++ c) ≤ 39) : callN P W N 7 [.val (.tuple (encs (a ++ c)))] = .ok false .none [] ∧ callN P W N 17 [.val (.int a.length), .val (.int 0), .val (.int (encs (a ++ c)).length)] = .ok false .none [] := by
  have hl : (encs (a ++ c)).length = a.length + c.length := by rw [encs_len]; simp
  exact ⟨need7 (by omega) _ (wfs_up _ _ h) (by omega), need17 (by omega) _ _ _ (by omega) (by omega)⟩
theorem may21 {N : Nat} (hN : 12 ≤ N) (h : wfs (a ++ c) 2) (hc : cnts (a ++ c) ≤ 39) : callN P W N 21 [.val (.tuple (encs (a ++ c))), .val (.int a.length)] = .ok false (.bool (mayL a c)) [] := by
  obtain ⟨M, rfl⟩ : ∃ M, N = M + 1 := ⟨N - 1, by omega⟩
  obtain ⟨e1, e2⟩ := cut_need (N := M) (by omega) h hc
  have e3 := cut19 (N := M) (d := 2) (by omega) h (by omega)
  have e4 := (cut_may h).1
  obtain ⟨L, hL⟩ : ∃ L, L = encs (a ++ c) := ⟨_, rfl⟩
  obtain ⟨n, hn⟩ : ∃ n : Int, n = a.length := ⟨_, rfl⟩
  rw [← hL] at e1 e2 e3 ⊢
  rw [← hn] at e2 e3 ⊢
  rw [step (df := f21) rfl rfl]
  simp [f21, e1, e2, e3, e4, len_tup]
theorem shown22 {N : Nat} (hN : 12 ≤ N) (h : wfs (a ++ c) 2) (hc : cnts (a ++ c) ≤ 39) : callN P W N 22 [.val (.tuple (encs (a ++ c))), .val (.int a.length)] = .ok false (cutD a c) [] := by
  obtain ⟨M, rfl⟩ : ∃ M, N = M + 1 := ⟨N - 1, by omega⟩
  obtain ⟨e1, e2⟩ := cut_need (N := M) (by omega) h hc
  have e3 := cut19 (N := M) (d := 2) (by omega) h (by omega)
  obtain ⟨L, hL⟩ : ∃ L, L = encs (a ++ c) := ⟨_, rfl⟩
  obtain ⟨n, hn⟩ : ∃ n : Int, n = a.length := ⟨_, rfl⟩
  rw [← hL] at e1 e2 e3 ⊢
  rw [← hn] at e2 e3 ⊢
  rw [step (df := f22) rfl rfl]
  simp [f22, e1, e2, e3, len_tup]
/-! the law's judgement -/
abbrev S39 (a c : List Th) (s2 s3 s4 s5 : Sl) : Ev.Env := [.val (.tuple (encs (a ++ c))), .val (.int a.length), s2, s3, s4, s5, .un]
theorem comp39 (N : Nat) (R : List Int) (hR : R.length ≤ 100) (s0 s1 s2 s4 s5 : Sl) : (ev (callN P W N) f39_c0).1 [s0, s1, s2, .val (.list (R.map PyData.int)), s4, s5, .un] = .ok (.f (.list ((runs 0 R).map PyData.int))) [s0, s1, s2, .val (.list (R.map PyData.int)), s4, s5, .un] := by
  have e : (ev (callN P W N) f39_c0).1 [s0, s1, s2, .val (.list (R.map PyData.int)), s4, s5, .un] = .ok (.f (.list ((List.range (R.length + 1)).map fun i => .int (R.take i).sum))) [s0, s1, s2, .val (.list (R.map PyData.int)), s4, s5, .un] := by
    refine e_map (xs := List.range (R.length + 1)) (en := fun i : Nat => .int i) (fun i => .int (R.take i).sum) ?_ (fun i hi => ?_) (by rw [List.length_range]; show _ ≤ 16777216; omega)
    · have h1 : (ev (callN P W N) (.bin .add (.bl1 .len (.var 3)) (.cst (.int 1)))).1 [s0, s1, s2, .val (.list (R.map PyData.int)), s4, s5, .un] = .ok (.d (.int ((R.map PyData.int).length + 1))) [s0, s1, s2, .val (.list (R.map PyData.int)), s4, s5, .un] := rfl
      rw [rg1_gen h1 (small (by omega) (by rw [List.length_map]; omega)), rng_range]
      have e2 : (((R.map PyData.int).length : Int) + 1).toNat = R.length + 1 := by rw [List.length_map]; omega
      rw [e2]
      congr 1
      apply List.map_congr_left
      intro k _
      rw [Int.zero_add]
    · have hi' : i ≤ R.length := by have := List.mem_range.mp hi; omega
      have c2 : cut (R.map PyData.int) none (some (i : Int)) = (R.take i).map PyData.int := by
        rw [List.map_take]
        exact cut_take _ _ (by rw [List.length_map]; exact hi')
      have s2' := sum_ints (R.take i)
      obtain ⟨X, hX⟩ : ∃ X, X = R.map PyData.int := ⟨_, rfl⟩
      obtain ⟨Y, hY⟩ : ∃ Y, Y = (R.take i).map PyData.int := ⟨_, rfl⟩
      rw [← hX, ← hY] at c2
      rw [← hY] at s2'
      rw [← hX]
      exact ⟨_, by simp [item, wipeE, c2, s2']; rfl, by simp [wipeE]⟩
  have hh : ((List.range (R.length + 1)).map fun i => PyData.int (R.take i).sum) = (runs 0 R).map PyData.int := by
    rw [← runs_range, List.map_map]
    rfl
  rw [e, hh]
theorem loop39 {N : Nat} (hN : 1 ≤ N) (up : Bool) (h : wfs (a ++ c) d) (hc : cnts (a ++ c) ≤ 100) (s3 : Sl) : ∀ (n : Nat) (i : Int) (s5 : Sl), Free s5 → (n = 0 ∨ 0 < sS up a c) →
    ∃ t5, Free t5 ∧ forL (fun x r2 => (asn (.n 5 false) (.d x) r2).bind fun _ r3 => evB (callN P W N) W f39_b0 r3) (rng i n) (S39 a c (.val (.int (wy up))) s3 (.val (lI up a c)) s5) = .ok (match fnd (pL up a c) i n with | some _ => .ret false (.bool false) | none => .nx) (S39 a c (.val (.int (wy up))) s3 (.val (lI up a c)) t5)
  | 0, i, s5, h5, hz => ⟨s5, h5, rfl⟩
  | n + 1, i, s5, h5, hz => by
    have h0 : 0 < sS up a c := by omega
    have e1 := drift38 (N := N) (by omega) (sums_ok up h hc h0) (sg up * i)
    have et : ((asn (.n 5 false) (.d (.int i)) (S39 a c (.val (.int (wy up))) s3 (.val (lI up a c)) s5)).bind fun _ r3 => evB (callN P W N) W f39_b0 r3) = .ok (if pL up a c i = true then .ret false (.bool false) else .nx) (S39 a c (.val (.int (wy up))) s3 (.val (lI up a c)) (.val (.int i))) := by
      unfold pL
      unfold S39 lI
      obtain ⟨Y, hY⟩ : ∃ Y, Y = (rsU up a c).map PyData.int := ⟨_, rfl⟩
      obtain ⟨L, hL⟩ : ∃ L, L = encs (a ++ c) := ⟨_, rfl⟩
      obtain ⟨q, hq⟩ : ∃ q, q = anyI (cL a.length (sg up * i) (sA up a c) (sS up a c)) 0 (rsU up a c) := ⟨_, rfl⟩
      rw [← hY, ← hq] at e1
      rw [← hY, ← hL, ← hq]
      cases up
      · have e1' : callN P W N 38 [.val (.list Y), .val (.int a.length), .val (.int (-i))] = .ok false (.bool q) [] := by
          rw [← e1, show sg false * i = -i by show -1 * i = -i; omega]
        cases q <;> simp [f39_b0, sto_free h5, e1', wy]
      · have e1' : callN P W N 38 [.val (.list Y), .val (.int a.length), .val (.int i)] = .ok false (.bool q) [] := by
          rw [← e1, show sg true * i = i by show 1 * i = i; omega]
        cases q <;> simp [f39_b0, sto_free h5, e1', wy]
    show ∃ t5, Free t5 ∧ forL _ (PyData.int i :: rng (i + 1) n) _ = .ok (match (if pL up a c i = true then some i else fnd (pL up a c) (i + 1) n) with | some _ => .ret false (.bool false) | none => .nx) _
    by_cases hp : pL up a c i = true
    · rw [if_pos hp] at et ⊢
      exact ⟨_, .inr ⟨_, rfl⟩, for_ret et⟩
    · rw [if_neg hp] at et ⊢
      obtain ⟨t5, k5, e3⟩ := loop39 hN up h hc s3 n (i + 1) (.val (.int i)) (.inr ⟨_, rfl⟩) (.inr h0)
      exact ⟨t5, k5, by rw [for_nx et]; exact e3⟩
theorem turn39 {N : Nat} (hN : 2 ≤ N) (up : Bool) (h : wfs (a ++ c) d) (hc : cnts (a ++ c) ≤ 100) (s2 s3 s4 s5 : Sl) (h2 : Free s2) (h3 : Free s3) (h4 : Free s4) (h5 : Free s5) :
    ∃ t5, Free t5 ∧ ((asn (.n 2 false) (.d (.int (wy up))) (S39 a c s2 s3 s4 s5)).bind fun _ r3 => evB (callN P W N) W f39_b1 r3) = .ok (match fL up a c with | some _ => .ret false (.bool false) | none => .nx) (S39 a c (.val (.int (wy up))) (.val (.list ((ru up (a ++ c)).map PyData.int))) (.val (lI up a c)) t5) := by
  have e1 := rules_ok (N := N) (by omega) up (a ++ c) hc
  have hrl : (ru up (a ++ c)).length ≤ 100 := by
    unfold ru
    rw [List.length_map]
    have := len_cnts (a ++ c)
    omega
  have e2 := fun s0 s1 s2 s4 s5 => comp39 N (ru up (a ++ c)) hrl s0 s1 s2 s4 s5
  have hA := sA_nn (up := up) h
  have hB := sB_nn (up := up) h
  have hS := sAB (a := a) (c := c) up
  have hS2 := sS_bd up h hc
  obtain ⟨t5, k5, e3⟩ := loop39 (N := N) (d := d) (by omega) up h hc (.val (.list ((ru up (a ++ c)).map PyData.int))) (sS up a c + 1 - 1).toNat 1 s5 h5 (by omega)
  rw [show sS up a c + 1 - 1 = sS up a c by omega] at e3
  have e4 : evS (callN P W N) W f39_l0 (S39 a c (.val (.int (wy up))) (.val (.list ((ru up (a ++ c)).map PyData.int))) (.val (lI up a c)) s5) = .ok (match fL up a c with | some _ => .ret false (.bool false) | none => .nx) (S39 a c (.val (.int (wy up))) (.val (.list ((ru up (a ++ c)).map PyData.int))) (.val (lI up a c)) t5) := by
    rw [show f39_l0 = IS.fr (.n 5 false) (.rg2 (.cst (.int 1)) (.bin .add (.idx (.var 4) (.neg (.cst (.int 1)))) (.cst (.int 1)))) f39_b0 from rfl, s_for]
    have i1 : idx (lI up a c) (.int (-1)) = some (.int (sS up a c)) := runs_idx _
    have h1 : (ev (callN P W N) (.bin .add (.idx (.var 4) (.neg (.cst (.int 1)))) (.cst (.int 1)))).1 (S39 a c (.val (.int (wy up))) (.val (.list ((ru up (a ++ c)).map PyData.int))) (.val (lI up a c)) s5) = .ok (.d (.int (sS up a c + 1))) (S39 a c (.val (.int (wy up))) (.val (.list ((ru up (a ++ c)).map PyData.int))) (.val (lI up a c)) s5) := by
      obtain ⟨Y, hY⟩ : ∃ Y, Y = lI up a c := ⟨_, rfl⟩
      obtain ⟨R, hR⟩ : ∃ R, R = (ru up (a ++ c)).map PyData.int := ⟨_, rfl⟩
      rw [← hY] at i1
      rw [← hY, ← hR]
      simp [S39, i1]
    have h0 : (ev (callN P W N) (.cst (.int 1))).1 (S39 a c (.val (.int (wy up))) (.val (.list ((ru up (a ++ c)).map PyData.int))) (.val (lI up a c)) s5) = .ok (.d (.int 1)) (S39 a c (.val (.int (wy up))) (.val (.list ((ru up (a ++ c)).map PyData.int))) (.val (lI up a c)) s5) := rfl
    rw [rg2_gen h0 h1 (by decide +kernel) (small (by omega) (by omega)), bind_ok', show sS up a c + 1 - 1 = sS up a c by omega]
    exact e3
  have key : ((asn (.n 2 false) (.d (.int (wy up))) (S39 a c s2 s3 s4 s5)).bind fun _ r3 => evB (callN P W N) W f39_b1 r3) = seqK (evS (callN P W N) W f39_l0 (S39 a c (.val (.int (wy up))) (.val (.list ((ru up (a ++ c)).map PyData.int))) (.val (lI up a c)) s5)) (evB (callN P W N) W .nil) := by
    rw [show f39_b1 = IB.cons (.asg (.n 3 false) (.call 30 "_law_rules" (.cons (.var 0) (.cons (.var 2) .nil)))) (.cons (.asg (.n 4 false) f39_c0) (.cons f39_l0 .nil)) from rfl]
    obtain ⟨Z, hZ⟩ : ∃ Z, Z = f39_l0 := ⟨_, rfl⟩
    obtain ⟨Z0, hZ0⟩ : ∃ Z0, Z0 = f39_c0 := ⟨_, rfl⟩
    rw [← hZ, ← hZ0]
    rw [← hZ0] at e2
    unfold S39 lI
    obtain ⟨L, hL⟩ : ∃ L, L = encs (a ++ c) := ⟨_, rfl⟩
    obtain ⟨R, hR⟩ : ∃ R, R = (ru up (a ++ c)).map PyData.int := ⟨_, rfl⟩
    obtain ⟨Y, hY⟩ : ∃ Y, Y = (rsU up a c).map PyData.int := ⟨_, rfl⟩
    rw [← hL, ← hR] at e1
    rw [← hR, show (runs 0 (ru up (a ++ c))).map PyData.int = Y from hY.symm] at e2
    rw [← hL, ← hY, ← hR]
    simp [sto_free h2, sto_free h3, sto_free h4, e1, e2]
  refine ⟨t5, k5, ?_⟩
  rw [key, e4]
  cases fL up a c <;> rfl
theorem may39 {N : Nat} (hN : 3 ≤ N) (h : wfs (a ++ c) d) (hc : cnts (a ++ c) ≤ 100) : callN P W N 39 [.val (.tuple (encs (a ++ c))), .val (.int a.length)] = .ok false (.bool (mayL a c)) [] := by
  obtain ⟨M, rfl⟩ : ∃ M, N = M + 1 := ⟨N - 1, by omega⟩
  obtain ⟨t5, k5, t1⟩ := turn39 (N := M) (d := d) (by omega) true h hc .un .un .un .un (.inl rfl) (.inl rfl) (.inl rfl) (.inl rfl)
  obtain ⟨t6, k6, t2⟩ := turn39 (N := M) (d := d) (by omega) false h hc (.val (.int (wy true))) (.val (.list ((ru true (a ++ c)).map PyData.int))) (.val (lI true a c)) t5 (.inr ⟨_, rfl⟩) (.inr ⟨_, rfl⟩) (.inr ⟨_, rfl⟩) k5
  have ei : evI (callN P W M) (.val (.tup (.cons (.cst (.int 2)) (.cons (.cst (.int 4)) .nil)))) (S39 a c .un .un .un .un) = .ok [.int (wy true), .int (wy false)] (S39 a c .un .un .un .un) := by
    simp [SZ, itemsOf, wy]
  rw [step (df := f39) rfl rfl]
  rw [show f39.body = IB.cons f39_l1 (.cons (.ret (.cst (.bool true))) .nil) from rfl]
  rw [show ([Sl.val (.tuple (encs (a ++ c))), .val (.int a.length)] ++ List.replicate (f39.names.length - f39.np) .un : Ev.Env) = S39 a c .un .un .un .un from rfl]
  rw [b_cons, show f39_l1 = IS.fr (.n 2 false) (.val (.tup (.cons (.cst (.int 2)) (.cons (.cst (.int 4)) .nil)))) f39_b1 from rfl, s_for, ei, bind_ok']
  unfold mayL
  cases h1 : fL true a c with
  | some e =>
    rw [h1] at t1
    rw [for_ret t1]
    simp
  | none =>
    rw [h1] at t1
    rw [for_nx t1]
    cases h2 : fL false a c with
    | some e =>
      rw [h2] at t2
      rw [for_ret t2]
      simp
    | none =>
      rw [h2] at t2
      rw [for_nx t2, for_end]
      simp
end
end K63

set_option linter.all false
set_option maxRecDepth 100000
set_option maxHeartbeats 4000000
/-! Halves. -/
namespace K63
open PySem Ev
def asM (l : List Th) (w : Int) : List Int := if w - wds l = 0 then runs 0 (l.map wd) else ((runs 0 (l.map wd)).zip (runs 0 (ru (upOf (w - wds l)) l))).map (mixT (w - wds l) (ru (upOf (w - wds l)) l).sum)
theorem asM_get {l : List Th} {d : Nat} (h : wfs l d) {w : Int} (hw : wordM l w = "") (j : Nat) (hj : j ≤ l.length) : (asM l w)[j]? = some (topAt l w j) := by
  have e1 := runs_get (l.map wd) 0 j (by rw [List.length_map]; omega)
  rw [wds_take] at e1
  unfold asM
  by_cases h0 : w - wds l = 0
  · rw [if_pos h0, e1]
    unfold topAt
    rw [h0, Int.zero_mul, Int.zero_ediv, Int.zero_add, Int.add_zero]
  · rw [if_neg h0]
    have hS := (word_tp h hw h0).1
    have e2 := runs_get (ru (upOf (w - wds l)) l) 0 j (by unfold ru; rw [List.length_map]; omega)
    have e3 := (List.getElem?_zip_eq_some (l₁ := runs 0 (l.map wd)) (l₂ := runs 0 (ru (upOf (w - wds l)) l)) (i := j) (z := (_, _))).mpr ⟨e1, e2⟩
    rw [List.getElem?_map, e3]
    unfold topAt mixT
    have hi : (if (ru (upOf (w - wds l)) l).sum > 1 then (ru (upOf (w - wds l)) l).sum else 1) = (ru (upOf (w - wds l)) l).sum := by
      split <;> omega
    rw [hi, Int.zero_add, Int.zero_add]
    rfl
theorem asM_lz {l : List Th} {d : Nat} (h : wfs l d) {w : Int} (hw : wordM l w = "") : lz l (asM l w) = lt l w 0 l :=
  lz_lt l w l 0 _ fun j hj => by
    rw [asM_get h hw j (by omega), Nat.zero_add]
theorem asM_len (l : List Th) (w : Int) : (asM l w).length ≤ l.length + 1 := by
  unfold asM
  split
  · rw [runs_len, List.length_map]
    omega
  · rw [List.length_map, List.length_zip, runs_len, List.length_map]
    omega
theorem tops_eq {l : List Th} {d : Nat} (h : wfs l d) (hc : cnts l ≤ 100) {w : Int} (hw : wordM l w = "") : ∃ b, topsM l w = (b, .list ((asM l w).map PyData.int)) := by
  rcases tops_due h hc w with ⟨s, _, e2, e3⟩ | ⟨b, as, e1, _, _⟩
  · exact absurd (e3.symm.trans hw) e2
  · unfold topsM at e1 ⊢
    unfold asM
    by_cases h0 : w - wds l = 0
    · rw [if_pos h0, if_pos h0]
      exact ⟨false, rfl⟩
    · rw [if_neg h0, if_neg h0]
      have e1' := e1
      rw [if_neg h0] at e1'
      by_cases c1 : 0 < w - wds l ∧ (ru (decide (0 < w - wds l)) l).sum = 0
      · rw [if_pos c1] at e1'
        injection e1' with _ e1'
        exact nomatch e1'
      · rw [if_neg c1] at e1'
        by_cases c2 : w - wds l < 0 ∧ ((ru (decide (0 < w - wds l)) l).sum = 0 ∨ ((ords (decide (0 < w - wds l)) l ≠ [] ∧ topL (ords (decide (0 < w - wds l)) l) = 0) ∧ (ru (decide (0 < w - wds l)) l).sum < -(w - wds l)))
        · rw [if_pos c2] at e1'
          injection e1' with _ e1'
          exact nomatch e1'
        · refine ⟨true, ?_⟩
          rw [if_neg c1, if_neg c2]
          rfl
def resD (s : Str) (L : List Int) : D := if s = "" then .tuple [.str "set", .tuple (L.map PyData.int)] else .tuple [.str s]
theorem due_res (l : List Th) (w : Int) : dueD l w = resD (wordM l w) (lt l w 0 l ++ [w]) := rfl
theorem hlv_len (a c : List Th) (w : Int) : (hlv a c w).length ≤ cnts a + cnts c := by
  unfold hlv
  rw [List.length_append, List.length_map]
  have h1 := lt_len a (topAt (a ++ c) w a.length) a 0
  have h2 := lt_len c (w - topAt (a ++ c) w a.length) c 0
  omega
section
variable {a c : List Th} {d : Nat}
theorem T_bd (h : wfs (a ++ c) d) {w : Int} (hw : wordM (a ++ c) w = "") (hb : -100000 ≤ w - wds (a ++ c) ∧ w - wds (a ++ c) ≤ 100000) : (-100000 ≤ topAt (a ++ c) w a.length - wds a ∧ topAt (a ++ c) w a.length - wds a ≤ 100000) ∧ -200000 ≤ w - topAt (a ++ c) w a.length - wds c ∧ w - topAt (a ++ c) w a.length - wds c ≤ 200000 := by
  have ht := top_at (a := a) (c := c) w
  have hwd := wds_app a c
  obtain ⟨up, hup⟩ : ∃ up, up = upOf (w - wds (a ++ c)) := ⟨_, rfl⟩
  rw [← hup] at ht
  have hA := sA_nn (up := up) h
  have hB := sB_nn (up := up) h
  have hS := sAB (a := a) (c := c) up
  by_cases h0 : w - wds (a ++ c) = 0
  · have : fst (w - wds (a ++ c)) (sA up a c) (sS up a c) = 0 := by rw [h0]; unfold fst; rw [Int.zero_mul, Int.zero_ediv]
    omega
  · have w1 : 0 < sS up a c := by
      have := (word_tp h hw h0).1
      rw [← hup] at this
      exact this
    by_cases hp : 0 ≤ w - wds (a ++ c)
    · have := fst_up hA hB hS w1 hp
      omega
    · have := fst_dn hA hB hS w1 (show w - wds (a ++ c) ≤ 0 by omega)
      omega
theorem comp20 (N : Nat) (A X : List Int) (n : Nat) (T : Int) (hl : A.length ≤ 1000) (hT : idx (.list (X.map PyData.int)) (.int n) = some (.int T)) (s0 s2 s4 s6 : Sl) : (ev (callN P W N) f20_c0).1 [s0, .val (.int n), s2, .val (.list (X.map PyData.int)), s4, .val (.list (A.map PyData.int)), s6, .un] = .ok (.f (.list ((A.map (T + ·)).map PyData.int))) [s0, .val (.int n), s2, .val (.list (X.map PyData.int)), s4, .val (.list (A.map PyData.int)), s6, .un] := by
  obtain ⟨Y, hY⟩ : ∃ Y, Y = X.map PyData.int := ⟨_, rfl⟩
  rw [← hY] at hT ⊢
  have e : (ev (callN P W N) f20_c0).1 [s0, .val (.int n), s2, .val (.list Y), s4, .val (.list (A.map PyData.int)), s6, .un] = .ok (.f (.list (A.map fun i => .int (T + i)))) [s0, .val (.int n), s2, .val (.list Y), s4, .val (.list (A.map PyData.int)), s6, .un] := by
    refine e_map (xs := A) (en := PyData.int) (fun i => .int (T + i)) (by simp [itemsOf]) (fun i hi => ?_) (by show _ ≤ 16777216; omega)
    exact ⟨_, by simp [item, wipeE, hT]; rfl, by simp [wipeE]⟩
  rw [List.map_map]
  exact e
theorem cutsL : cut (encs (a ++ c)) none (some (a.length : Int)) = encs a ∧ cut (encs (a ++ c)) (some (a.length : Int)) none = encs c := by
  rw [encs_app, ← encs_len a]
  exact ⟨cut_a _ _, cut_c _ _⟩
theorem addT (L : List Int) (w : Int) (h : L.length ≤ 1000) : bop .add (.tuple (L.map PyData.int)) (.tuple [.int w]) = some (.d (.tuple ((L ++ [w]).map PyData.int))) := by
  rw [bop_tup, List.map_append]
  refine if_pos ?_
  rw [List.length_map]
  show _ + 1 ≤ 16777216
  omega
theorem addL (L K : List Int) (h : L.length ≤ 1000) (h2 : K.length ≤ 1000) : bop .add (.tuple (L.map PyData.int)) (.tuple (K.map PyData.int)) = some (.d (.tuple ((L ++ K).map PyData.int))) := by
  rw [bop_tup, List.map_append]
  refine if_pos ?_
  rw [List.length_map, List.length_map]
  show _ + _ ≤ 16777216
  omega
theorem set20w {N : Nat} (hN : 20 ≤ N) (h : wfs (a ++ c) 2) (hc : cnts (a ++ c) ≤ 39) (w : Int) (hb : -1000000000 ≤ w ∧ w ≤ 1000000000) (hb2 : -100000 ≤ w - wds (a ++ c) ∧ w - wds (a ++ c) ≤ 100000) (hz : wordM (a ++ c) w ≠ "") : callN P W N 20 [.val (.tuple (encs (a ++ c))), .val (.int a.length), .val (.int w)] = .ok false (resD (wordM (a ++ c) w) (hlv a c w ++ [w])) [] := by
  obtain ⟨M, rfl⟩ : ∃ M, N = M + 1 := ⟨N - 1, by omega⟩
  obtain ⟨e1, e2⟩ := cut_need (N := M) (by omega) h hc
  have e3 := need8 (N := M) (by omega) w hb.1 hb.2
  have e4 := tops15 (N := M) (d := 2) (by omega) (a ++ c) h (by omega) w (by omega)
  unfold resD
  rw [if_neg hz]
  rcases tops_due h (by omega) w with ⟨s, q1, q2, q3⟩ | ⟨b, as, q1, q2, q3⟩
  · rw [q1] at e4
    rw [q3]
    obtain ⟨L, hL⟩ : ∃ L, L = encs (a ++ c) := ⟨_, rfl⟩
    obtain ⟨n, hn⟩ : ∃ n : Int, n = a.length := ⟨_, rfl⟩
    rw [← hL] at e1 e2 e4 ⊢
    rw [← hn] at e2 ⊢
    rw [step (df := f20) rfl rfl]
    simp [f20, e1, e2, e3, e4, len_tup, notDict, isTy, SZ]
  · exact absurd q2 hz
theorem set20s {N : Nat} (hN : 20 ≤ N) (h : wfs (a ++ c) 2) (hc : cnts (a ++ c) ≤ 39) (w : Int) (hb : -1000000000 ≤ w ∧ w ≤ 1000000000) (hb2 : -100000 ≤ w - wds (a ++ c) ∧ w - wds (a ++ c) ≤ 100000) (hz : wordM (a ++ c) w = "") : callN P W N 20 [.val (.tuple (encs (a ++ c))), .val (.int a.length), .val (.int w)] = .ok false (resD (wordM (a ++ c) w) (hlv a c w ++ [w])) [] := by
  obtain ⟨M, rfl⟩ : ∃ M, N = M + 1 := ⟨N - 1, by omega⟩
  obtain ⟨ha, hcc⟩ := wfs_split _ _ _ h
  have hcn := cnts_app a c
  obtain ⟨w1, w2⟩ := words_two h hz
  obtain ⟨bT1, bT2⟩ := T_bd h hz hb2
  obtain ⟨e1, e2⟩ := cut_need (N := M) (by omega) h hc
  have e3 := need8 (N := M) (by omega) w hb.1 hb.2
  have hlen := len_cnts a
  have hlen2 := len_cnts c
  have hT : idx (.list ((asM (a ++ c) w).map PyData.int)) (.int a.length) = some (.int (topAt (a ++ c) w a.length)) := by
    refine idx_natL _ _ _ ?_
    rw [List.getElem?_map, asM_get h hz a.length (by rw [List.length_append]; omega)]
    rfl
  have hl := hlv_len a c w
  unfold hlv at hl ⊢
  obtain ⟨T, hTT⟩ : ∃ T, T = topAt (a ++ c) w a.length := ⟨_, rfl⟩
  rw [← hTT] at w1 w2 bT1 bT2 hT hl ⊢
  obtain ⟨b, q⟩ := tops_eq h (by omega) hz
  have e4 : callN P W M 15 [.val (.tuple (encs (a ++ c))), .val (.int w)] = .ok b (.list ((asM (a ++ c) w).map PyData.int)) [] := by
    have := tops15 (N := M) (d := 2) (by omega) (a ++ c) h (by omega) w (by omega)
    rw [q] at this
    exact this
  obtain ⟨b1, q1⟩ := tops_eq ha (by omega) w1
  have e5 : callN P W M 15 [.val (.tuple (encs a)), .val (.int T)] = .ok b1 (.list ((asM a T).map PyData.int)) [] := by
    have := tops15 (N := M) (d := 2) (by omega) a ha (by omega) T (by omega)
    rw [q1] at this
    exact this
  obtain ⟨b2, q2⟩ := tops_eq hcc (by omega) w2
  have e6 : callN P W M 15 [.val (.tuple (encs c)), .val (.int (w - T))] = .ok b2 (.list ((asM c (w - T)).map PyData.int)) [] := by
    have := tops15 (N := M) (d := 2) (by omega) c hcc (by omega) (w - T) (by omega)
    rw [q2] at this
    exact this
  have e7 := leaves16 2 M (by omega) a (asM a T) ha (by omega)
  rw [asM_lz ha w1] at e7
  have hal := asM_len c (w - T)
  have e8 := fun s0 s2 s4 s6 => comp20 M (asM c (w - T)) (asM (a ++ c) w) a.length T (by omega) hT s0 s2 s4 s6
  have e9 := leaves16 2 M (by omega) c ((asM c (w - T)).map (T + ·)) hcc (by omega)
  rw [lz_shift, asM_lz hcc w2] at e9
  obtain ⟨c1, c2⟩ := cutsL (a := a) (c := c)
  rw [List.length_append] at hl
  have a1 := addL (lt a T 0 a) ((lt c (w - T) 0 c).map (T + ·)) (by omega) (by omega)
  have a2 := addT (lt a T 0 a ++ (lt c (w - T) 0 c).map (T + ·)) w (by rw [List.length_append]; omega)
  unfold resD
  rw [if_pos hz]
  obtain ⟨L, hL⟩ : ∃ L, L = encs (a ++ c) := ⟨_, rfl⟩
  obtain ⟨n, hn⟩ : ∃ n : Int, n = a.length := ⟨_, rfl⟩
  obtain ⟨X, hX⟩ : ∃ X, X = (asM (a ++ c) w).map PyData.int := ⟨_, rfl⟩
  obtain ⟨X1, hX1⟩ : ∃ X, X = (asM a T).map PyData.int := ⟨_, rfl⟩
  obtain ⟨X2, hX2⟩ : ∃ X, X = (asM c (w - T)).map PyData.int := ⟨_, rfl⟩
  obtain ⟨X3, hX3⟩ : ∃ X, X = ((asM c (w - T)).map (T + ·)).map PyData.int := ⟨_, rfl⟩
  obtain ⟨Y1, hY1⟩ : ∃ Y, Y = (lt a T 0 a).map PyData.int := ⟨_, rfl⟩
  obtain ⟨Y2, hY2⟩ : ∃ Y, Y = ((lt c (w - T) 0 c).map (T + ·)).map PyData.int := ⟨_, rfl⟩
  obtain ⟨Y3, hY3⟩ : ∃ Y, Y = (lt a T 0 a ++ (lt c (w - T) 0 c).map (T + ·)).map PyData.int := ⟨_, rfl⟩
  obtain ⟨Y4, hY4⟩ : ∃ Y, Y = (lt a T 0 a ++ (lt c (w - T) 0 c).map (T + ·) ++ [w]).map PyData.int := ⟨_, rfl⟩
  rw [← hL] at e1 e2 e4 c1 c2 ⊢
  rw [← hX] at e4 hT e8
  rw [← hX1] at e5 e7
  rw [← hX2] at e6 e8
  rw [← hX3] at e8 e9
  rw [← hY1] at e7 a1
  rw [← hY2] at e9 a1
  rw [← hY3] at a1 a2
  rw [← hY4] at a2 ⊢
  rw [← hn] at e2 hT e8 c1 c2 ⊢
  rw [step (df := f20) rfl rfl]
  cases b <;> cases b1 <;> cases b2 <;> simp [f20, e1, e2, e3, e4, e5, e6, e7, e8, e9, a1, a2, c1, c2, hT, len_tup, notDict, isTy, SZ]
theorem set20 {N : Nat} (hN : 20 ≤ N) (h : wfs (a ++ c) 2) (hc : cnts (a ++ c) ≤ 39) (w : Int) (hb : -1000000000 ≤ w ∧ w ≤ 1000000000) (hb2 : -100000 ≤ w - wds (a ++ c) ∧ w - wds (a ++ c) ≤ 100000) : callN P W N 20 [.val (.tuple (encs (a ++ c))), .val (.int a.length), .val (.int w)] = .ok false (resD (wordM (a ++ c) w) (hlv a c w ++ [w])) [] := by
  by_cases hz : wordM (a ++ c) w = ""
  · exact set20s hN h hc w hb hb2 hz
  · exact set20w hN h hc w hb hb2 hz
theorem comp37 (N : Nat) (A : List Int) (T : Int) (hl : A.length ≤ 1000) (s0 s1 s2 s3 s5 : Sl) : (ev (callN P W N) f37_c0).1 [s0, s1, s2, s3, .val (.int T), s5, .val (.tuple (A.map PyData.int)), .un] = .ok (.f (.list ((A.map (T + ·)).map PyData.int))) [s0, s1, s2, s3, .val (.int T), s5, .val (.tuple (A.map PyData.int)), .un] := by
  have e : (ev (callN P W N) f37_c0).1 [s0, s1, s2, s3, .val (.int T), s5, .val (.tuple (A.map PyData.int)), .un] = .ok (.f (.list (A.map fun i => .int (T + i)))) [s0, s1, s2, s3, .val (.int T), s5, .val (.tuple (A.map PyData.int)), .un] := by
    refine e_map (xs := A) (en := PyData.int) (fun i => .int (T + i)) (by simp [itemsOf]) (fun i hi => ?_) (by show _ ≤ 16777216; omega)
    exact ⟨_, by simp [item, wipeE]; rfl, by simp [wipeE]⟩
  rw [List.map_map]
  exact e
theorem tup_list (l : List D) : b1 .tuple (.list l) = some (.d (.tuple l)) := rfl
theorem halves37 {N : Nat} (hN : 10 ≤ N) (h : wfs (a ++ c) 2) (hc : cnts (a ++ c) ≤ 39) (w : Int) (hb2 : -100000 ≤ w - wds (a ++ c) ∧ w - wds (a ++ c) ≤ 100000) : callN P W N 37 [.val (.tuple (encs (a ++ c))), .val (.int a.length), .val (.int w)] = .ok false (resD (wordM (a ++ c) w) (hlv a c w ++ [w])) [] := by
  obtain ⟨M, rfl⟩ : ∃ M, N = M + 1 := ⟨N - 1, by omega⟩
  have e1 := word29 (N := M) (d := 2) (by omega) (by decide) (a ++ c) h (by omega) w
  unfold resD
  by_cases hz : wordM (a ++ c) w = ""
  · obtain ⟨ha, hcc⟩ := wfs_split _ _ _ h
    have hcn := cnts_app a c
    obtain ⟨bT1, bT2⟩ := T_bd h hz hb2
    have hlen := len_cnts a
    have hlen2 := len_cnts c
    have e2 := top30 (N := M) (d := 2) (by omega) (a ++ c) h (by omega) w (by omega) a.length (by rw [List.length_append]; omega)
    have hl := hlv_len a c w
    unfold hlv at hl ⊢
    obtain ⟨T, hTT⟩ : ∃ T, T = topAt (a ++ c) w a.length := ⟨_, rfl⟩
    rw [← hTT] at e2 bT1 bT2 hl ⊢
    have e3 := leaves32 (N := M) (d := 2) (by omega) a ha (by omega) T (by omega)
    have e4 := leaves32 (N := M) (d := 2) (by omega) c hcc (by omega) (w - T) (by omega)
    have hl1 := lt_len a T a 0
    have hl2 := lt_len c (w - T) c 0
    have e5 := fun s0 s1 s2 s3 s5 => comp37 M (lt c (w - T) 0 c) T (by omega) s0 s1 s2 s3 s5
    obtain ⟨c1, c2⟩ := cutsL (a := a) (c := c)
    have a1 := addL (lt a T 0 a) ((lt c (w - T) 0 c).map (T + ·)) (by omega) (by rw [List.length_map]; omega)
    have a2 := addT (lt a T 0 a ++ (lt c (w - T) 0 c).map (T + ·)) w (by rw [List.length_append, List.length_map]; omega)
    rw [hz] at e1 ⊢
    rw [if_pos rfl]
    obtain ⟨L, hL⟩ : ∃ L, L = encs (a ++ c) := ⟨_, rfl⟩
    obtain ⟨n, hn⟩ : ∃ n : Int, n = a.length := ⟨_, rfl⟩
    obtain ⟨Y0, hY0⟩ : ∃ Y, Y = (lt c (w - T) 0 c).map PyData.int := ⟨_, rfl⟩
    obtain ⟨Y1, hY1⟩ : ∃ Y, Y = (lt a T 0 a).map PyData.int := ⟨_, rfl⟩
    obtain ⟨Y2, hY2⟩ : ∃ Y, Y = ((lt c (w - T) 0 c).map (T + ·)).map PyData.int := ⟨_, rfl⟩
    obtain ⟨Y3, hY3⟩ : ∃ Y, Y = (lt a T 0 a ++ (lt c (w - T) 0 c).map (T + ·)).map PyData.int := ⟨_, rfl⟩
    obtain ⟨Y4, hY4⟩ : ∃ Y, Y = (lt a T 0 a ++ (lt c (w - T) 0 c).map (T + ·) ++ [w]).map PyData.int := ⟨_, rfl⟩
    rw [← hL] at e1 e2 c1 c2 ⊢
    rw [← hY0] at e4 e5
    rw [← hY1] at e3 a1
    rw [← hY2] at e5 a1
    rw [← hY3] at a1 a2
    rw [← hY4] at a2 ⊢
    rw [← hn] at e2 c1 c2 ⊢
    rw [step (df := f37) rfl rfl]
    simp [f37, e1, e2, e3, e4, e5, a1, a2, c1, c2, tup_list, SZ]
  · rw [if_neg hz]
    obtain ⟨L, hL⟩ : ∃ L, L = encs (a ++ c) := ⟨_, rfl⟩
    rw [← hL] at e1 ⊢
    rw [step (df := f37) rfl rfl]
    simp [f37, e1, hz, SZ]
end
end K63

set_option linter.all false
set_option maxRecDepth 100000
set_option maxHeartbeats 4000000
/-! Cuts: right. -/
namespace K63
open PySem Ev
theorem res_shaped (s : Str) (hs : s = "" ∨ s = "loose" ∨ s = "tight") (L : List Int) : (resD s L).canLay0 = true ∧ SeqAt.shaped (resD s L) = true := by
  have h : (resD s L).canLay0 = true ∧ PyData.depth (resD s L) ≤ 10 := by
    unfold resD
    have hk : ∀ s : Str, s = "loose" ∨ s = "tight" ∨ s = "set" → PyData.strOk s = true := fun s hs => by
      rcases hs with rfl | rfl | rfl <;> decide +kernel
    by_cases hz : s = ""
    · rw [if_pos hz]
      obtain ⟨a, b⟩ := lay_ints L
      obtain ⟨I, hI⟩ : ∃ I, I = L.map PyData.int := ⟨_, rfl⟩
      rw [← hI] at a b ⊢
      refine ⟨?_, ?_⟩
      · simp [PyData.canLay0, PyData.canLayAll0, a, hk "set" (.inr (.inr rfl))]
      · simp [PyData.depth, PyData.depthAll]
        omega
    · rw [if_neg hz]
      have hs : PyData.strOk s = true := by
        rcases hs with h | h | h
        · exact absurd h hz
        · exact hk _ (.inl h)
        · exact hk _ (.inr (.inl h))
      refine ⟨?_, ?_⟩
      · simp [PyData.canLay0, PyData.canLayAll0, hs]
      · simp [PyData.depth, PyData.depthAll]
  refine ⟨h.1, ?_⟩
  unfold SeqAt.shaped
  rw [Bool.and_eq_true]
  exact ⟨h.1, decide_eq_true (by omega)⟩
theorem res_ne (s : Str) (hs : s = "" ∨ s = "loose" ∨ s = "tight") (L : List Int) : cop .ne (resD s L) (resD s L) = some false := by
  obtain ⟨h1, h2⟩ := res_shaped s hs L
  have hq := SeqAt.eqv_refl _ h1
  show (if eqOk _ _ = true then some (!PyData.eqv (resD s L) (resD s L)) else none) = _
  rw [if_pos (by unfold eqOk; rw [h2]; simp), hq]
  rfl
theorem eqv_ints : ∀ (l k : List Int), PyData.eqvAll (l.map PyData.int) (k.map PyData.int) = true → l = k
  | [], [], _ => rfl
  | [], _ :: _, h => by simp [PyData.eqvAll] at h
  | _ :: _, [], h => by simp [PyData.eqvAll] at h
  | x :: l, y :: k, h => by
    have h' : (PyData.eqv (.int x) (.int y) && PyData.eqvAll (l.map PyData.int) (k.map PyData.int)) = true := h
    rw [Bool.and_eq_true] at h'
    have e := eqv_ints l k h'.2
    have e2 : x = y := by simpa [PyData.eqv] using h'.1
    rw [e, e2]
theorem res_ne2 (L K : List Int) (h : L ≠ K) : cop .ne (resD "" L) (resD "" K) = some true := by
  have hq : PyData.eqv (resD "" L) (resD "" K) = false := by
    unfold resD
    rw [if_pos rfl, if_pos rfl]
    by_cases hz : PyData.eqvAll (L.map PyData.int) (K.map PyData.int) = true
    · exact absurd (eqv_ints _ _ hz) h
    · obtain ⟨X, hX⟩ : ∃ X, X = L.map PyData.int := ⟨_, rfl⟩
      obtain ⟨Y, hY⟩ : ∃ Y, Y = K.map PyData.int := ⟨_, rfl⟩
      rw [← hX, ← hY] at hz ⊢
      simp [PyData.eqv, PyData.eqvAll, hz]
  show (if eqOk _ _ = true then some (!PyData.eqv (resD "" L) (resD "" K)) else none) = _
  rw [if_pos (by unfold eqOk; rw [(res_shaped "" (.inl rfl) L).2, (res_shaped "" (.inl rfl) K).2]; simp), hq]
  rfl
theorem repr_b (x : Bool) : b1 .repr (.bool x) = some (.d (.str (if x then "True" else "False"))) := rfl
theorem abs_i (i : Int) : b1 .abs (.int i) = some (.d (.int (if i < 0 then -i else i))) := rfl
theorem pow9 : bop .pow (.int 10) (.int 9) = some (.d (.int 1000000000)) := by kernel_rfl
section
variable {a c : List Th}
theorem res_due {d : Nat} (h : wfs (a ++ c) d) (hm : mayC a c) (w : Int) : dueD (a ++ c) w = resD (wordM (a ++ c) w) (hlv a c w ++ [w]) := by
  rw [due_res]
  by_cases hz : wordM (a ++ c) w = ""
  · rw [all_same h hm hz]
  · unfold resD
    rw [if_neg hz, if_neg hz]
abbrev S40 (x : D) (a c : List Th) (due : Bool) (sh : D) (s5 s6 : Sl) : Ev.Env := [.bor x, .val (.tuple (encs (a ++ c))), .val (.int a.length), .val (.bool due), .val sh, s5, s6]
theorem loop40 {N : Nat} (hN : 25 ≤ N) (h : wfs (a ++ c) 2) (hc : cnts (a ++ c) ≤ 39) (due : Bool) (hdue : due = true → mayC a c) (x sh : D) : ∀ (ws : List Int) (s5 s6 : Sl), (∀ w ∈ ws, -10000 ≤ w ∧ w ≤ 10000) → Free s5 → Free s6 →
    ∃ t5 t6, forL (fun y r2 => (asn (.n 5 false) (.d y) r2).bind fun _ r3 => evB (callN P W N) W f40_b0 r3) (ws.map PyData.int) (S40 x a c due sh s5 s6) = .ok .nx (S40 x a c due sh t5 t6)
  | [], s5, s6, hw, h5, h6 => ⟨s5, s6, rfl⟩
  | w :: ws, s5, s6, hw, h5, h6 => by
    have hb := hw w List.mem_cons_self
    have bd := wds_bd _ _ h
    have e1 := set20 (N := N) (by omega) h hc w (by omega) (by omega)
    have e2 := halves37 (N := N) (by omega) h hc w (by omega)
    have e3 := due33 (N := N) (d := 2) (by omega) (by decide) (a ++ c) h (by omega) w (by omega)
    have e4 := res_ne (wordM (a ++ c) w) (word_cases _ _) (hlv a c w ++ [w])
    obtain ⟨Q, hQ⟩ : ∃ Q, Q = resD (wordM (a ++ c) w) (hlv a c w ++ [w]) := ⟨_, rfl⟩
    have et : ((asn (.n 5 false) (.d (.int w)) (S40 x a c due sh s5 s6)).bind fun _ r3 => evB (callN P W N) W f40_b0 r3) = .ok .nx (S40 x a c due sh (.val (.int w)) (.val Q)) := by
      unfold S40
      cases due
      · rw [← hQ] at e1 e2 e4
        obtain ⟨L, hL⟩ : ∃ L, L = encs (a ++ c) := ⟨_, rfl⟩
        obtain ⟨n, hn⟩ : ∃ n : Int, n = a.length := ⟨_, rfl⟩
        rw [← hL, ← hn] at e1 e2 ⊢
        simp [f40_b0, sto_free h5, sto_free h6, e1, e2, e4]
      · rw [res_due h (hdue rfl) w] at e3
        rw [← hQ] at e1 e2 e3 e4
        obtain ⟨L, hL⟩ : ∃ L, L = encs (a ++ c) := ⟨_, rfl⟩
        obtain ⟨n, hn⟩ : ∃ n : Int, n = a.length := ⟨_, rfl⟩
        rw [← hL, ← hn] at e1 e2 ⊢
        rw [← hL] at e3
        simp [f40_b0, sto_free h5, sto_free h6, e1, e2, e3, e4]
    obtain ⟨t5, t6, e5⟩ := loop40 hN h hc due hdue x sh ws (.val (.int w)) (.val Q) (fun z hz => hw z (List.mem_cons_of_mem _ hz)) (.inr ⟨_, rfl⟩) (.inr ⟨_, rfl⟩)
    exact ⟨t5, t6, by rw [List.map_cons, for_nx et]; exact e5⟩
theorem all40 {N : Nat} (hN : 25 ≤ N) (h : wfs (a ++ c) 2) (hc : cnts (a ++ c) ≤ 39) (due : Bool) (hdue : due = true → mayC a c) {x : D} (hk : Cup x) (sh : D) : ∃ x' t5 t6, Cup x' ∧ evS (callN P W N) W f40_l0 (S40 x a c due sh .un .un) = .ok .nx (S40 x' a c due sh t5 t6) := by
  obtain ⟨ws, x', e1, k1, h1, h2⟩ := widths34 (N := N) (by omega) hk _ h (by omega)
  obtain ⟨t5, t6, e2⟩ := loop40 hN h hc due hdue x' sh ws .un .un h2 (.inl rfl) (.inl rfl)
  refine ⟨x', t5, t6, k1, ?_⟩
  rw [show f40_l0 = IS.fr (.n 5 false) (.val (.call 36 "_law_widths" (.lend 0 (.cons (.var 1) .nil)))) f40_b0 from rfl, s_for]
  have ei : evI (callN P W N) (.val (.call 36 "_law_widths" (.lend 0 (.cons (.var 1) .nil)))) (S40 x a c due sh .un .un) = .ok (ws.map PyData.int) (S40 x' a c due sh .un .un) := by
    unfold S40
    obtain ⟨L, hL⟩ : ∃ L, L = encs (a ++ c) := ⟨_, rfl⟩
    rw [← hL] at e1 ⊢
    simp [e1, itemsOf]
  rw [ei, bind_ok']
  exact e2
theorem right40 {N : Nat} (hN : 26 ≤ N) {x : D} (hk : Cup x) (h : wfs (a ++ c) 2) (hc : cnts (a ++ c) ≤ 39) : ∃ x', Cup x' ∧ callN P W N 40 [.bor x, .val (.tuple (encs (a ++ c))), .val (.int a.length)] = .ok false (.bool true) [x'] := by
  obtain ⟨M, rfl⟩ : ∃ M, N = M + 1 := ⟨N - 1, by omega⟩
  have e1 := may39 (N := M) (d := 2) (by omega) h (by omega)
  have e2 := shown22 (N := M) (by omega) h hc
  have e3 := may21 (N := M) (by omega) h hc
  have bd := wds_bd _ _ h
  obtain ⟨_, m2, m3⟩ := cut_may h
  by_cases hm : mayL a c = true
  · obtain ⟨mc, mn⟩ := m2 hm
    obtain ⟨x', t5, t6, k1, e4⟩ := all40 (N := M) (by omega) h hc true (fun _ => mc) hk .none
    refine ⟨x', k1, ?_⟩
    rw [hm] at e1 e3
    rw [mn] at e2
    unfold S40 at e4
    have i1 : isOf .none .none = some true := rfl
    rw [step (df := f40) rfl rfl]
    unfold f40
    obtain ⟨Z, hZ⟩ : ∃ Z, Z = f40_l0 := ⟨_, rfl⟩
    rw [← hZ] at e4 ⊢
    obtain ⟨L, hL⟩ : ∃ L, L = encs (a ++ c) := ⟨_, rfl⟩
    obtain ⟨n, hn⟩ : ∃ n : Int, n = a.length := ⟨_, rfl⟩
    rw [← hL, ← hn] at e1 e2 e3 e4 ⊢
    simp [e1, e2, e3, e4, repr_b, i1, SZ]
  · have hm' : mayL a c = false := by simpa using hm
    obtain ⟨up, e, q1, q2, q3, q4⟩ := m3 hm'
    have hS2 := sS_bd up h (by omega)
    obtain ⟨w, hw⟩ : ∃ w, w = wds (a ++ c) + sg up * e := ⟨_, rfl⟩
    rw [← hw] at q1
    have hex : w - wds (a ++ c) = sg up * e := by omega
    have hup : upOf (sg up * e) = up := by
      unfold upOf
      cases up
      · have : sg false = -1 := rfl
        rw [this]
        exact decide_eq_false (by omega)
      · have : sg true = 1 := rfl
        rw [this]
        exact decide_eq_true (by omega)
    have hsg : sg up * e ≠ 0 ∧ -700 ≤ sg up * e ∧ sg up * e ≤ 700 := by
      rcases sg_cases up with z | z <;> rw [z] <;> omega
    have hword : wordM (a ++ c) w = "" := by
      unfold wordM
      rw [hex, hup]
      have q3' : e < (ru up (a ++ c)).sum := q3
      cases up
      · have : sg false = -1 := rfl
        rw [this]
        rw [if_neg (by omega), if_pos ⟨by omega, .inl (by omega)⟩]
      · have : sg true = 1 := rfl
        rw [this]
        rw [if_pos (.inr ⟨by omega, by omega⟩)]
    have hne : hlv a c w ++ [w] ≠ lt (a ++ c) w 0 (a ++ c) ++ [w] := fun z => by
      have hz : hlv a c w = lt (a ++ c) w 0 (a ++ c) := List.append_cancel_right z
      have := no_of_same h hword (by rw [hex]; exact hsg.1) hz
      rw [hex, hup] at this
      exact q4 this
    obtain ⟨x', t5, t6, k1, e4⟩ := all40 (N := M) (by omega) h hc false (fun z => (nomatch z)) hk (.int w)
    refine ⟨x', k1, ?_⟩
    rw [hm'] at e1 e3
    rw [q1] at e2
    unfold S40 at e4
    have e5 := word29 (N := M) (d := 2) (by omega) (by decide) (a ++ c) h (by omega) w
    have e6 := halves37 (N := M) (by omega) h hc w (by omega)
    have e7 := due33 (N := M) (d := 2) (by omega) (by decide) (a ++ c) h (by omega) w (by omega)
    have e8 := res_ne2 _ _ hne
    rw [due_res, hword] at e7
    rw [hword] at e5 e6
    have ab : ¬ (1000000000 : Int) < (if w < 0 then -w else w) := by split <;> omega
    obtain ⟨Q1, hQ1⟩ : ∃ Q, Q = resD "" (hlv a c w ++ [w]) := ⟨_, rfl⟩
    obtain ⟨Q2, hQ2⟩ : ∃ Q, Q = resD "" (lt (a ++ c) w 0 (a ++ c) ++ [w]) := ⟨_, rfl⟩
    rw [← hQ1] at e6 e8
    rw [← hQ2] at e7 e8
    rw [step (df := f40) rfl rfl]
    unfold f40
    obtain ⟨Z, hZ⟩ : ∃ Z, Z = f40_l0 := ⟨_, rfl⟩
    rw [← hZ] at e4 ⊢
    obtain ⟨L, hL⟩ : ∃ L, L = encs (a ++ c) := ⟨_, rfl⟩
    obtain ⟨n, hn⟩ : ∃ n : Int, n = a.length := ⟨_, rfl⟩
    rw [← hL, ← hn] at e1 e2 e3 e4 e6 ⊢
    rw [← hL] at e5 e7
    simp [e1, e2, e3, e4, e5, e6, e7, e8, repr_b, abs_i, pow9, ab, notDict, isTy, SZ]
end
theorem right_at {N : Nat} (hN : 26 ≤ N) {x : D} (hk : Cup x) (l : List Th) (h : wfs l 2) (hc : cnts l ≤ 39) (n : Nat) (hn : n ≤ l.length) : ∃ x', Cup x' ∧ callN P W N 40 [.bor x, .val (.tuple (encs l)), .val (.int n)] = .ok false (.bool true) [x'] := by
  have hl : l.take n ++ l.drop n = l := List.take_append_drop n l
  have ha : (l.take n).length = n := by rw [List.length_take]; omega
  obtain ⟨x', k1, e⟩ := right40 (N := N) (a := l.take n) (c := l.drop n) hN hk (by rw [hl]; exact h) (by rw [hl]; exact hc)
  rw [hl, ha] at e
  exact ⟨x', k1, e⟩
end K63

set_option linter.all false
set_option maxRecDepth 100000
set_option maxHeartbeats 4000000
/-! The law. -/
namespace K63
open PySem Ev
abbrev S41 (v x : D) (s2 s3 s4 s5 s8 s9 s10 : Sl) : Ev.Env := [.val v, .own x, s2, s3, s4, s5, .un, .un, s8, s9, s10, .un]
def isSpc : Th → Bool
  | .space _ _ _ _ _ => true
  | _ => false
theorem spaces41 {N : Nat} (hN : 3 ≤ N) (v : D) (s2 s3 s4 s5 s8 s9 : Sl) : ∀ (ys : List D) (x : D) (s10 : Sl), Cup x → ∃ (ls : List Th) (x' : D) (s : Sl), compL (fun y r2 => (asn (.n 10 false) (.d y) (wipeE [10] r2)).bind fun _ r3 => (evT (callN P W N) .no r3).bind fun ok r4 => match ok with
        | true => ((ev (callN P W N) (.call 26 "_law_space" (.lend 1 (.cons (.cst (.int 7)) .nil)))).1 r4).bind fun y r5 => (solidR r5 y).bind fun v r6 => .ok [v] r6
        | false => .ok [] r4) ys (S41 v x s2 s3 s4 s5 s8 s9 s10) = .ok (encs ls) (S41 v x' s2 s3 s4 s5 s8 s9 s) ∧ Cup x' ∧ wfs ls 2 ∧ cnts ls = ys.length
  | [], x, s10, hk => ⟨[], x, s10, rfl, hk, trivial, rfl⟩
  | y :: ys, x, s10, hk => by
    obtain ⟨w, a, o, b, p, x1, e1, g1, k1⟩ := space_ge hN hk (q := 7) (.inr rfl)
    obtain ⟨ls, x2, s, e2, k2, g2, n2⟩ := spaces41 hN v s2 s3 s4 s5 s8 s9 ys x1 (.val y) k1
    refine ⟨.space w a o b p :: ls, x2, s, ?_, k2, ⟨g1, g2⟩, ?_⟩
    · have et : ((asn (.n 10 false) (.d y) (wipeE [10] (S41 v x s2 s3 s4 s5 s8 s9 s10))).bind fun _ r3 => (evT (callN P W N) .no r3).bind fun ok r4 => match ok with
        | true => ((ev (callN P W N) (.call 26 "_law_space" (.lend 1 (.cons (.cst (.int 7)) .nil)))).1 r4).bind fun y r5 => (solidR r5 y).bind fun v r6 => .ok [v] r6
        | false => .ok [] r4) = .ok [enc (.space w a o b p)] (S41 v x1 s2 s3 s4 s5 s8 s9 (.val y)) := by
        simp [S41, wipeE, e1]
      unfold compL
      rw [et]
      dsimp only
      rw [e2]
      rfl
    · show 1 + cnts ls = ys.length + 1
      omega
theorem comp41 {N : Nat} (hN : 3 ≤ N) (v : D) {x : D} (hk : Cup x) (s2 s3 s4 s5 s8 s9 : Sl) : ∃ (ls : List Th) (x' : D), (ev (callN P W N) f41_c1).1 (S41 v x s2 s3 s4 s5 s8 s9 .un) = .ok (.f (.list (encs ls))) (S41 v x' s2 s3 s4 s5 s8 s9 .un) ∧ Cup x' ∧ wfs ls 2 ∧ cnts ls ≤ 6 := by
  obtain ⟨j, x1, e1, j0, j1, k1⟩ := roll_ge (N := N) (by omega) hk (k := 6) (by decide) (by decide)
  obtain ⟨ls, x2, s, e2, k2, g2, n2⟩ := spaces41 hN v s2 s3 s4 s5 s8 s9 (rng 0 (1 + j).toNat) x1 .un k1
  rw [rng_length] at n2
  refine ⟨ls, x2, ?_, k2, g2, by omega⟩
  have h1 : (ev (callN P W N) (.bin .add (.cst (.int 1)) (.call 24 "_law_roll" (.lend 1 (.cons (.cst (.int 6)) .nil))))).1 (S41 v x s2 s3 s4 s5 s8 s9 .un) = .ok (.d (.int (1 + j))) (S41 v x1 s2 s3 s4 s5 s8 s9 .un) := by
    simp [S41, e1]
  have ei : evI (callN P W N) (.rg1 (.bin .add (.cst (.int 1)) (.call 24 "_law_roll" (.lend 1 (.cons (.cst (.int 6)) .nil))))) (S41 v x s2 s3 s4 s5 s8 s9 .un) = .ok (rng 0 (1 + j).toNat) (S41 v x1 s2 s3 s4 s5 s8 s9 .un) := rg1_gen h1 (small (by omega) (by omega))
  have hl : (encs ls).length ≤ SZ := by
    have := len_cnts ls
    rw [encs_len]
    show _ ≤ 16777216
    omega
  rw [show f41_c1 = IE.cm1 [("_law_count", 10)] (.call 26 "_law_space" (.lend 1 (.cons (.cst (.int 7)) .nil))) (.n 10 false) (.rg1 (.bin .add (.cst (.int 1)) (.call 24 "_law_roll" (.lend 1 (.cons (.cst (.int 6)) .nil))))) .no from rfl]
  show (evI _ _ _).bind _ = _
  rw [ei]
  exact (show ∀ m, m = Res.ok (encs ls) (S41 v x2 s2 s3 s4 s5 s8 s9 s) → (match m with
      | .ok ys r2 => if ys.length ≤ SZ then Res.ok (TV.f (.list ys)) (backE (S41 v x1 s2 s3 s4 s5 s8 s9 .un) [10] r2) else .stuck
      | _ => .stuck) = Res.ok (TV.f (.list (encs ls))) (S41 v x2 s2 s3 s4 s5 s8 s9 .un) from fun m hm => by
    subst hm
    dsimp only
    rw [if_pos hl]
    rfl) _ e2
theorem tup_l (l : List D) : b1 .tuple (.list l) = some (.d (.tuple l)) := rfl
theorem turn41 {N : Nat} (hN : 27 ≤ N) (v : D) {x : D} (hk : Cup x) (i : Int) (s2 s8 s9 : Sl) (h2 : Free s2) (h8 : Free s8) (h9 : Free s9) : ∃ (x' d8 d9 : D), Cup x' ∧ ((asn (.n 2 false) (.d (.int i)) (S41 v x s2 .un .un .un s8 s9 .un)).bind fun _ r3 => evB (callN P W N) W f41_b1 r3) = .ok .nx (S41 v x' (.val (.int i)) .un .un .un (.val d8) (.val d9) .un) := by
  obtain ⟨l, c1, e1, k1, hw, hc, hl⟩ := strip_ok (N := N) (by omega) hk (q := 16) (by decide) (by decide)
  have hXl : (encs l).length = l.length := encs_len l
  obtain ⟨j, c2, e2, j0, j1, k2⟩ := roll_ge (N := N) (by omega) k1 (k := (l.length : Int) + 1) (by omega) (by omega)
  obtain ⟨s, rfl⟩ : ∃ s : Nat, j = s := ⟨j.toNat, by omega⟩
  obtain ⟨c3, k3, e3⟩ := right_at (N := N) (by omega) k2 l hw (by omega) s (by omega)
  obtain ⟨ls, c4, e4, k4, hw2, hc2⟩ := comp41 (N := N) (by omega) v k3 (.val (.int i)) .un .un .un (.val (.tuple (encs l))) s9
  have hYl : (encs ls).length = ls.length := encs_len ls
  have hl2 := len_cnts ls
  obtain ⟨j', c5, e5, j2, j3, k5⟩ := roll_ge (N := N) (by omega) k4 (k := (ls.length : Int) + 1) (by omega) (by omega)
  obtain ⟨t, rfl⟩ : ∃ t : Nat, j' = t := ⟨j'.toNat, by omega⟩
  obtain ⟨c6, k6, e6⟩ := right_at (N := N) (by omega) k5 ls hw2 (by omega) t (by omega)
  unfold S41 at e4
  obtain ⟨X, hX⟩ : ∃ X, X = encs l := ⟨_, rfl⟩
  obtain ⟨Y, hY⟩ : ∃ Y, Y = encs ls := ⟨_, rfl⟩
  rw [← hX] at e1 hXl e3 e4
  rw [← hY] at e4 hYl e6
  obtain ⟨n, hn⟩ : ∃ n : Int, n = l.length := ⟨_, rfl⟩
  obtain ⟨m, hm⟩ : ∃ m : Int, m = ls.length := ⟨_, rfl⟩
  have hXn : (X.length : Int) = n := by rw [hXl, hn]
  have hYm : (Y.length : Int) = m := by rw [hYl, hm]
  rw [← hn] at e2
  rw [← hm] at e5
  refine ⟨c6, .tuple X, .tuple Y, k6, ?_⟩
  rw [show f41_b1 = IB.cons (.asg (.n 8 false) (.call 28 "_law_strip" (.lend 1 (.cons (.cst (.int 16)) .nil)))) (.cons (.ifs (.not (.call 40 "_law_right" (.lend 1 (.cons (.var 8) (.cons (.call 24 "_law_roll" (.lend 1 (.cons (.bin .add (.bl1 .len (.var 8)) (.cst (.int 1))) .nil))) .nil))))) (.cons (.ret (.cst (.bool false))) .nil) .nil) (.cons (.asg (.n 9 false) (.bl1 .tuple f41_c1)) (.cons (.ifs (.not (.call 40 "_law_right" (.lend 1 (.cons (.var 9) (.cons (.call 24 "_law_roll" (.lend 1 (.cons (.bin .add (.bl1 .len (.var 9)) (.cst (.int 1))) .nil))) .nil))))) (.cons (.ret (.cst (.bool false))) .nil) .nil) .nil))) from rfl]
  obtain ⟨Z, hZ⟩ : ∃ Z, Z = f41_c1 := ⟨_, rfl⟩
  rw [← hZ] at e4 ⊢
  simp [S41, sto_free h2, sto_free h8, sto_free h9, e1, e2, e3, e4, e5, e6, len_tup, tup_l, hXn, hYm]
/-! the told rows -/
def rowD (r : List Int × Nat) : D := .tuple [.tuple (r.1.map PyData.int), .int r.2]
def thA (a : Int) : Th := .space 0 a 0 0 0
theorem compA (N : Nat) (A : List Int) (hl : A.length ≤ 100) (s0 s1 s2 s3 s5 s6 s7 s8 s9 s10 : Sl) : (ev (callN P W N) f41_c0).1 [s0, s1, s2, s3, .val (.tuple (A.map PyData.int)), s5, s6, s7, s8, s9, s10, .un] = .ok (.f (.list (encs (A.map thA)))) [s0, s1, s2, s3, .val (.tuple (A.map PyData.int)), s5, s6, s7, s8, s9, s10, .un] := by
  rw [encs_map, List.map_map]
  refine e_map (xs := A) (en := PyData.int) (fun a => enc (thA a)) (by simp [itemsOf]) (fun i hi => ?_) (by show _ ≤ 16777216; omega)
  exact ⟨_, by simp [item, wipeE, enc, thA, SZ]; rfl, by simp [wipeE]⟩
theorem wfsA : ∀ A : List Int, (∀ x ∈ A, 0 ≤ x ∧ x ≤ 7) → wfs (A.map thA) 2 ∧ cnts (A.map thA) = A.length
  | [], h => ⟨trivial, rfl⟩
  | x :: A, h => by
    obtain ⟨h1, h2⟩ := wfsA A fun z hz => h z (List.mem_cons_of_mem _ hz)
    have hx := h x List.mem_cons_self
    refine ⟨⟨?_, h1⟩, ?_⟩
    · show ((-3 : Int) ≤ 0 ∧ (0 : Int) ≤ 10) ∧ (0 ≤ x ∧ x ≤ 7) ∧ ((0 : Int) ≤ 0 ∧ (0 : Int) ≤ 2) ∧ ((0 : Int) ≤ 0 ∧ (0 : Int) ≤ 7) ∧ ((0 : Int) ≤ 0 ∧ (0 : Int) ≤ 2)
      omega
    · show 1 + cnts (A.map thA) = A.length + 1
      omega
theorem rows41 {N : Nat} (hN : 27 ≤ N) (v : D) (s2 s3 s9 : Sl) : ∀ (rs : List (List Int × Nat)) (x : D) (s4 s5 s8 : Sl), Cup x → Free s4 → Free s5 → Free s8 → (∀ r ∈ rs, (∀ y ∈ r.1, 0 ≤ y ∧ y ≤ 7) ∧ r.1.length ≤ 30 ∧ r.2 ≤ r.1.length) →
    ∃ x' t4 t5 t8, forL (fun y r2 => (asn (.t [.n 4 false, .n 5 false]) (.d y) r2).bind fun _ r3 => evB (callN P W N) W f41_b0 r3) (rs.map rowD) (S41 v x s2 s3 s4 s5 s8 s9 .un) = .ok .nx (S41 v x' s2 s3 t4 t5 t8 s9 .un)
  | [], x, s4, s5, s8, hk, h4, h5, h8, h => ⟨x, s4, s5, s8, rfl⟩
  | r :: rs, x, s4, s5, s8, hk, h4, h5, h8, h => by
    obtain ⟨g1, g2, g3⟩ := h r List.mem_cons_self
    obtain ⟨w1, w2⟩ := wfsA r.1 g1
    have e1 := fun s0 s1 s2 s3 s5 s6 s7 s8 s9 s10 => compA N r.1 (by omega) s0 s1 s2 s3 s5 s6 s7 s8 s9 s10
    obtain ⟨x', k1, e2⟩ := right_at (N := N) (by omega) hk (r.1.map thA) w1 (by omega) r.2 (by rw [List.length_map]; exact g3)
    have et : ((asn (.t [.n 4 false, .n 5 false]) (.d (rowD r)) (S41 v x s2 s3 s4 s5 s8 s9 .un)).bind fun _ r3 => evB (callN P W N) W f41_b0 r3) = .ok .nx (S41 v x' s2 s3 (.val (.tuple (r.1.map PyData.int))) (.val (.int r.2)) (.val (.tuple (encs (r.1.map thA)))) s9 .un) := by
      unfold rowD
      obtain ⟨L, hL⟩ : ∃ L, L = encs (r.1.map thA) := ⟨_, rfl⟩
      obtain ⟨A, hA⟩ : ∃ A, A = r.1.map PyData.int := ⟨_, rfl⟩
      rw [← hL] at e1 e2 ⊢
      rw [← hA] at e1 ⊢
      rw [show f41_b0 = IB.cons (.asg (.n 8 false) (.bl1 .tuple f41_c0)) (.cons (.ifs (.not (.call 40 "_law_right" (.lend 1 (.cons (.var 8) (.cons (.var 5) .nil))))) (.cons (.ret (.cst (.bool false))) .nil) .nil) .nil) from rfl]
      obtain ⟨Z, hZ⟩ : ∃ Z, Z = f41_c0 := ⟨_, rfl⟩
      rw [← hZ] at e1 ⊢
      simp [S41, sto_free h4, sto_free h5, sto_free h8, e1, e2, tup_l]
    obtain ⟨x2, t4, t5, t8, e3⟩ := rows41 hN v s2 s3 s9 rs x' _ _ _ k1 (.inr ⟨_, rfl⟩) (.inr ⟨_, rfl⟩) (.inr ⟨_, rfl⟩) fun z hz => h z (List.mem_cons_of_mem _ hz)
    refine ⟨x2, t4, t5, t8, ?_⟩
    rw [List.map_cons, for_nx et]
    exact e3
def rows : List (List Int × Nat) := [([2, 1, 3], 2), ([1, 2, 3], 2), ([1, 1, 1, 1], 2), ([1, 2, 1], 2), ([2, 1], 2), ([1, 1, 1], 2), ([3, 1, 2], 1), ([5, 0, 2], 1), ([2, 4, 6], 2), ([4, 2, 3], 2)]
theorem rows_ok : ∀ r ∈ rows, (∀ y ∈ r.1, 0 ≤ y ∧ y ≤ 7) ∧ r.1.length ≤ 30 ∧ r.2 ≤ r.1.length := by decide +kernel
def nthB : IB → Nat → IS
  | .cons a _, 0 => a
  | .cons _ l, n + 1 => nthB l n
  | .nil, _ => .pas
def dropB : IB → Nat → IB
  | l, 0 => l
  | .cons _ l, n + 1 => dropB l n
  | .nil, _ => .nil
theorem body41 : f41.body = .cons (.asg (.n 1 true) (.call 23 "_law_cup" (.cons (.var 0) .nil))) (.cons f41_l1 (.cons (nthB f41.body 2) (.cons f41_l0 (dropB f41.body 4)))) := rfl
theorem set41 (call : Nat → List Sl → CR) (v x d2 d8 d9 : D) : evS call W (nthB f41.body 2) (S41 v x (.val d2) .un .un .un (.val d8) (.val d9) .un) = .ok .nx (S41 v x (.val d2) (.val (.list (rows.map rowD))) .un .un (.val d8) (.val d9) .un) := by kernel_rfl
set_option maxHeartbeats 0 in
theorem end41 (v x d2 : D) (s3 s4 s5 s8 s9 : Sl) : endK [.val v] (evB (callN P W 59) W (dropB f41.body 4) (S41 v x (.val d2) s3 s4 s5 s8 s9 .un)) = .ok false (.bool true) [] := by kernel_rfl
theorem pure41 : ∀ ns : List Int, ns.length ≤ 63 → callN (T.map (·.df)) 1000000 60 41 [.val (scriptD ns)] = .ok false (.bool true) [] := by
  intro ns hn
  obtain ⟨c, e0, k0⟩ := cup_ok 58 ns hn
  obtain ⟨v, hv⟩ : ∃ v, v = scriptD ns := ⟨_, rfl⟩
  rw [← hv] at e0 ⊢
  obtain ⟨c1, a8, a9, k1, e1⟩ := turn41 (N := 59) (by decide) v k0 0 .un .un .un (.inl rfl) (.inl rfl) (.inl rfl)
  obtain ⟨c2, b8, b9, k2, e2⟩ := turn41 (N := 59) (by decide) v k1 1 (.val (.int 0)) (.val a8) (.val a9) (.inr ⟨_, rfl⟩) (.inr ⟨_, rfl⟩) (.inr ⟨_, rfl⟩)
  obtain ⟨c3, d8, d9, k3, e3⟩ := turn41 (N := 59) (by decide) v k2 2 (.val (.int 1)) (.val b8) (.val b9) (.inr ⟨_, rfl⟩) (.inr ⟨_, rfl⟩) (.inr ⟨_, rfl⟩)
  have el : evS (callN P W 59) W f41_l1 (S41 v c .un .un .un .un .un .un .un) = .ok .nx (S41 v c3 (.val (.int 2)) .un .un .un (.val d8) (.val d9) .un) := by
    rw [show f41_l1 = IS.fr (.n 2 false) (.rg1 (.cst (.int 3))) f41_b1 from rfl, s_for]
    have ei : evI (callN P W 59) (.rg1 (.cst (.int 3))) (S41 v c .un .un .un .un .un .un .un) = .ok [.int 0, .int 1, .int 2] (S41 v c .un .un .un .un .un .un .un) := by rfl
    rw [ei, bind_ok', for_nx e1, for_nx e2, for_nx e3]
    rfl
  have ea : evS (callN P W 59) W (.asg (.n 1 true) (.call 23 "_law_cup" (.cons (.var 0) .nil))) [.val v, .un, .un, .un, .un, .un, .un, .un, .un, .un, .un, .un] = .ok .nx (S41 v c .un .un .un .un .un .un .un) := by
    simp [e0, S41]
  have es := set41 (callN P W 59) v c3 (.int 2) d8 d9
  obtain ⟨c5, t4, t5, t8, e5⟩ := rows41 (N := 59) (by decide) v (.val (.int 2)) (.val (.list (rows.map rowD))) (.val d9) rows c3 .un .un (.val d8) k3 (.inl rfl) (.inl rfl) (.inr ⟨_, rfl⟩) rows_ok
  obtain ⟨RD, hRD⟩ : ∃ RD, RD = rows.map rowD := ⟨_, rfl⟩
  rw [← hRD] at es e5
  have er : evS (callN P W 59) W f41_l0 (S41 v c3 (.val (.int 2)) (.val (.list RD)) .un .un (.val d8) (.val d9) .un) = .ok .nx (S41 v c5 (.val (.int 2)) (.val (.list RD)) t4 t5 t8 (.val d9) .un) := by
    rw [show f41_l0 = IS.fr (.t [.n 4 false, .n 5 false]) (.val (.var 3)) f41_b0 from rfl, s_for]
    have ei : evI (callN P W 59) (.val (.var 3)) (S41 v c3 (.val (.int 2)) (.val (.list RD)) .un .un (.val d8) (.val d9) .un) = .ok RD (S41 v c3 (.val (.int 2)) (.val (.list RD)) .un .un (.val d8) (.val d9) .un) := by rfl
    rw [ei, bind_ok']
    exact e5
  show callN P W (59 + 1) 41 [.val v] = _
  rw [step (df := f41) rfl rfl, body41]
  rw [show ([Sl.val v] ++ List.replicate (f41.names.length - f41.np) .un : Ev.Env) = [.val v, .un, .un, .un, .un, .un, .un, .un, .un, .un, .un, .un] from rfl]
  rw [b_cons, ea, seqK_nx, b_cons, el, seqK_nx, b_cons, es, seqK_nx, b_cons, er, seqK_nx]
  exact end41 v c5 (.int 2) _ _ _ _ _
end K63

set_option linter.all false
set_option maxRecDepth 100000
set_option maxHeartbeats 0
namespace K63
open PySem PySem.Spec PyProof.Rows L2 Ev
abbrev Pure : Prop := ∀ ns : List Int, ns.length ≤ 63 → callN (T.map (·.df)) 1000000 60 41 [.val (scriptD ns)] = .ok false (.bool true) []
end K63
open PySem PySem.W PySem.Calls PyProof.Rows
theorem K63.fin (hp : K63.Pure) : PySem.Challenge.rw_settlepages_k63_whole_strips_cut_ahead.Holds := by
  w_on; o_law
  refine HandSHeadRun.head_any (r := OpenLaw.row PySem.Challenge.rw_settlepages_k63_whole_strips_cut_ahead) (q := view (OpenLaw.row PySem.Challenge.rw_settlepages_k63_whole_strips_cut_ahead).prog [63]) (H := K63.hk) (ob := K63.ob) (M := 6000) (loose := K63.loose) (d := HandSHeadRun.topDef (OpenLaw.row PySem.Challenge.rw_settlepages_k63_whole_strips_cut_ahead).prog 63) (kwd := []) K63.ob_eq
    (by kernel_rfl) (fun s => by kernel_rfl) K63.run (by kernel_rfl) (by kernel_rfl) (by kernel_rfl) (by rfl) (by first | assumption | decide +kernel) (by decide +kernel) ⟨rfl, rfl, rfl, rfl, rfl, by decide +kernel⟩ ?hw ?hc
  case hw => w_witness2
  case hc =>
    refine L2.walk_ofE (l := PySem.Challenge.rw_settlepages_k63_whole_strips_cut_ahead) (n := 63) (k := 60) (x := "_law_script") (CX := L2.CX0) rfl (by decide) (by kernel_rfl) ⟨rfl, by decide, by decide⟩ ?F (fun _ _ _ _ z => z)
    intro w mg fa h Y G hmg0
    obtain ⟨K, KX, c⟩ := Y
    have hmg : mg ("law" : PySem.Str) = some (.ref fa) := by
      have e : (HandSHeadRun.topDef (OpenLaw.row PySem.Challenge.rw_settlepages_k63_whole_strips_cut_ahead).prog 63).name = ("law" : PySem.Str) := by kernel_rfl
      rw [← e]
      exact hmg0
    obtain ⟨fd, hb, hF⟩ := Ev.facts_of (P := (PySem.Challenge.rw_settlepages_k63_whole_strips_cut_ahead).prog) (w := w) (T := K63.T) (bs := K63.bs) (gl := K63.gl) (W := 1000000) (n := 60) (il := 41) (y := "_law_script") K63.hT K63.hB (by kernel_rfl) (d := ⟨K63.f41, L2.defArgs (K63.st 63), L2.defBody (K63.st 63), L2.defScope (K63.st 63)⟩) rfl rfl hp KX G hmg c
    exact ⟨K, fd, Ev.spLaw K, KX, hb, fun H a ns hl _ hS => ⟨a, ns, rfl, hl, hS, fun _ => rfl⟩, hF⟩

set_option linter.all false
set_option maxRecDepth 100000
set_option maxHeartbeats 0
theorem PySem.Challenge.cw_settlepages_k63_whole_strips_cut_ahead_holds : PySem.Challenge.rw_settlepages_k63_whole_strips_cut_ahead.Holds := by
  exact K63.fin K63.pure41
