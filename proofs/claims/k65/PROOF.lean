import PyProof.Rows.All
import HandS.ForMost
import KE.SortData
import HandS.TupAny
import HandS.TupMul
import HandS.TupLe
import HandS.IsInst
import HandS.Style
import HandS.Deep
import HandS.RaiseMore
import HandS.Walk
import HandS.Zip
import KE.GoesEnum
import KE.GoesZip
import KE.GoesMore
import HandS.Flow
import HandS.Dict
import HandS.DictTup
import KE.KDictCopyH
import HandS.Strs
import HandS.TupSets
import HandS.ListItems
import HandS.Conv
import HandS.Codes
import HandS.Defaults
import KE.KStateDown
import HandS.Ends
import HandS.More
import HandS.Words
import HandS.Head0
import HandS.Head1
import HandS.Head2
import HandS.HeadEnd
import HandS.HeadHook1
import HandS.HeadHook2
import PySem.Challenge.RW_settlepages_k65_whole_lines_taken_for_al
set_option Elab.async false
section
set_option linter.all false
/-! A small evaluator of Python's pure core over plain data, by fuel; no heap, no machine. -/
namespace Ev
open PySem

abbrev D := PyData
/-- a slot of a frame: nothing yet, a value, a list or dict of the frame's own, one that a caller lent -/
inductive Sl where
  | un | val (d : D) | own (d : D) | bor (d : D)
abbrev Env := List Sl
/-- what an expression gives: a value, a new object that nothing else knows, the object of a slot -/
inductive TV where
  | d (v : D) | f (v : D) | s (i : Nat)
inductive Res (α : Type) where
  | ok (a : α) (r : Env)
  | exc (c : Str) (d : D) (r : Env)
  | stuck
def Res.bind {α β : Type} (m : Res α) (f : α → Env → Res β) : Res β :=
  match m with
  | .ok a r => f a r
  | .exc c d r => .exc c d r
  | .stuck => .stuck
theorem bind_ok {α β : Type} (a : α) (r : Env) (f : α → Env → Res β) : (Res.ok a r).bind f = f a r := rfl
theorem bind_stuck {α β : Type} (f : α → Env → Res β) : (Res.stuck : Res α).bind f = .stuck := rfl
theorem bind_exc {α β : Type} (c : Str) (d : D) (r : Env) (f : α → Env → Res β) : (Res.exc c d r : Res α).bind f = .exc c d r := rfl
/-- an answer or none -/
def Res.of {α : Type} (o : Option α) (r : Env) : Res α :=
  match o with
  | some a => .ok a r
  | none => .stuck
theorem of_some {α : Type} (a : α) (r : Env) : Res.of (some a) r = .ok a r := rfl
theorem of_none {α : Type} (r : Env) : Res.of (none : Option α) r = .stuck := rfl

inductive Fl where
  | nx | brk | cnt | ret (fr : Bool) (v : D)
/-- what a call gives: whether the object is new, the value, what the lent objects are behind it -/
inductive CR where
  | ok (fr : Bool) (v : D) (outs : List D)
  | exc (c : Str) (d : D)
  | stuck

def deref (r : Env) : TV → Option D
  | .d v => some v
  | .f v => some v
  | .s i => match r[i]? with
    | some (.val d) => some d
    | some (.own d) => some d
    | some (.bor d) => some d
    | _ => none
def solid (r : Env) : TV → Option (D × Env)
  | .d v => some (v, r)
  | .f v => some (v, r)
  | .s i => match r[i]? with
    | some (.val d) => some (d, r)
    | some (.own d) => some (d, r.set i (.val d))
    | _ => none
def solidR (r : Env) (t : TV) : Res D :=
  match solid r t with
  | some (v, r') => .ok v r'
  | none => .stuck

/-- is it a dict? -/
def isDict : D → Bool
  | .dict [(.none, .list _)] => false
  | .dict _ => true
  | _ => false
def dictR (r : Env) (t : TV) : Res Unit :=
  match deref r t with
  | some u => if isDict u = true then .ok () r else .stuck
  | none => .stuck

/-! ### operators by values -/
inductive Bo where
  | add | sub | mul | div | mod | pow
  deriving DecidableEq
inductive Co where
  | eq | ne | lt | le | gt | ge | is | isNot | inn | notIn
  deriving DecidableEq
inductive Ty where
  | int | bool | str | tuple | list | dict
  deriving DecidableEq
inductive B1 where
  | abs | int | len | list | tuple | sum | all | any | max | min | sorted | str | repr
  deriving DecidableEq
inductive B2 where
  | max | min
  deriving DecidableEq

def SZ : Nat := 16777216
def P64 : Int := 18446744073709551616
def P63 : Int := 9223372036854775808
def P62 : Int := 4611686018427387904

def mulOk (i j : Int) : Bool := (decide (-P64 < i) && decide (i < P64)) || (decide (-P64 < j) && decide (j < P64))
/-- the value, and whether it is a new object -/
def bop : Bo → D → D → Option TV
  | .add, .int i, .int j => some (.d (.int (i + j)))
  | .add, .str x, .str y => if x.length + y.length ≤ SZ then some (.d (.str (x ++ y))) else none
  | .add, .tuple x, .tuple y => if x.length + y.length ≤ SZ then some (.d (.tuple (x ++ y))) else none
  | .add, .list x, .list y => if x.length + y.length ≤ SZ then some (.f (.list (x ++ y))) else none
  | .sub, .int i, .int j => some (.d (.int (i - j)))
  | .mul, .int i, .int j => if mulOk i j then some (.d (.int (i * j))) else none
  | .mul, .tuple x, .int k => if x.length ≤ 1000 ∧ k ≤ 1000 ∧ 2 ≤ k ∧ x.isEmpty = false then some (.d (.tuple (List.replicate k.toNat x).flatten)) else none
  | .div, .int i, .int j => if 0 < j ∧ j < 1073741824 then some (.d (.int (i / j))) else none
  | .mod, .int i, .int j => if 0 < j then some (.d (.int (i % j))) else none
  | .pow, .int i, .int j => if 0 ≤ j ∧ j ≤ 1000000 ∧ i.natAbs < 18446744073709551616 then some (.d (.int (i ^ j.toNat))) else none
  | _, _, _ => none

def scal : D → D → Bool
  | .none, .none => true
  | .none, .int _ => true
  | .int _, .none => true
  | .none, .bool _ => true
  | .bool _, .none => true
  | .none, .str _ => true
  | .str _, .none => true
  | .int _, .int _ => true
  | .bool _, .bool _ => true
  | .str _, .str _ => true
  | .int _, .str _ => true
  | .str _, .int _ => true
  | .bool _, .str _ => true
  | .str _, .bool _ => true
  | _, _ => false
def eqOk (a b : D) : Bool := scal a b || (SeqAt.shaped a && SeqAt.shaped b)
def flat : D → Bool
  | .none => true
  | .bool _ => true
  | .int _ => true
  | .str _ => true
  | _ => false
def inOf (a : D) : D → Option Bool
  | .str z => match a with
    | .str x => match x.cps.toList with
      | [c] => some (decide (c ∈ z.cps.toList))
      | _ => none
    | _ => none
  | .list ys => if flat a && ys.all flat then some (ys.any fun y => PyData.eqv y a)
    else if SeqAt.shaped a && SeqAt.shaped (.list ys) then some (ys.any fun y => PyData.eqv y a) else none
  | .tuple ys => if flat a && ys.all flat then some (ys.any fun y => PyData.eqv y a) else none
  | _ => none
def isOf : D → D → Option Bool
  | a, .none => some (match a with | .none => true | _ => false)
  | .bool a, .bool b => some (a == b)
  | _, _ => none
def ltStr (x y : Str) : Bool := decide (x.cps.toList < y.cps.toList)
def cop : Co → D → D → Option Bool
  | .eq, a, b => if eqOk a b then some (PyData.eqv a b) else none
  | .ne, a, b => if eqOk a b then some (!PyData.eqv a b) else none
  | .lt, .int i, .int j => some (decide (i < j))
  | .le, .int i, .int j => some (decide (i ≤ j))
  | .gt, .int i, .int j => some (decide (j < i))
  | .ge, .int i, .int j => some (decide (j ≤ i))
  | .lt, .str x, .str y => some (ltStr x y)
  | .le, .str x, .str y => some (!ltStr y x)
  | .gt, .str x, .str y => some (ltStr y x)
  | .ge, .str x, .str y => some (!ltStr x y)
  | .is, a, b => isOf a b
  | .isNot, a, b => (isOf a b).map (!·)
  | .inn, a, b => inOf a b
  | .notIn, a, b => (inOf a b).map (!·)
  | _, _, _ => none
def truth : D → Option Bool
  | .none => some false
  | .bool b => some b
  | .int i => some (i != 0)
  | .str y => if y.length ≤ SZ then some ((y.length : Int) != 0) else none
  | .list xs => some (!xs.isEmpty)
  | .tuple xs => some (!xs.isEmpty)
  | _ => none
def notDict : D → Bool
  | .dict _ => false
  | _ => true
def isTy : Ty → D → Bool
  | .int, .int _ => true
  | .int, .bool _ => true
  | .bool, .bool _ => true
  | .str, .str _ => true
  | .tuple, .tuple _ => true
  | .list, .list _ => true
  | _, _ => false
def ixN (n : Nat) (i : Int) : Option Nat := if 0 ≤ i then (if i < n then some i.toNat else none) else if -(n : Int) ≤ i then some (i + n).toNat else none
def atI {α : Type} (xs : List α) (i : Int) : Option α := (ixN xs.length i).bind fun j => xs[j]?
def idx : D → D → Option D
  | .list xs, .int i => atI xs i
  | .tuple xs, .int i => atI xs i
  | .str z, .int i => if z.length ≤ SZ then (atI z.cps.toList i).map fun c => .str ⟨#[c]⟩ else none
  | _, _ => none
def sIx (n d : Nat) : Option Int → Nat
  | none => d
  | some v => if v < 0 then (v + (n : Int)).toNat else min v.toNat n
def cut {α : Type} (xs : List α) (lo hi : Option Int) : List α := (xs.drop (sIx xs.length 0 lo)).take (sIx xs.length xs.length hi - sIx xs.length 0 lo)
def slice (lo hi : Option Int) : D → Option TV
  | .list xs => some (.f (.list (cut xs lo hi)))
  | .tuple xs => some (.d (.tuple (cut xs lo hi)))
  | .str z => if z.length ≤ SZ then some (.d (.str ⟨(cut z.cps.toList lo hi).toArray⟩)) else none
  | _ => none
def intOf : D → Option Int
  | .int i => some i
  | _ => none
def intsL : List D → Option (List Int)
  | [] => some []
  | .int i :: r => (intsL r).map (i :: ·)
  | _ => none
def boolsL : List D → Option (List Bool)
  | [] => some []
  | .bool b :: r => (boolsL r).map (b :: ·)
  | _ => none
def maxL : Int → List Int → Int
  | m, [] => m
  | m, x :: r => maxL (if m < x then x else m) r
def minL : Int → List Int → Int
  | m, [] => m
  | m, x :: r => minL (if x < m then x else m) r
def insI (x : Int) : List Int → List Int
  | [] => [x]
  | y :: r => if x ≤ y then x :: y :: r else y :: insI x r
def sortI : List Int → List Int
  | [] => []
  | x :: r => insI x (sortI r)
def b1 : B1 → D → Option TV
  | .abs, .int i => some (.d (.int (if i < 0 then -i else i)))
  | .int, .int i => some (.d (.int i))
  | .len, .str y => if y.length ≤ SZ then some (.d (.int y.length)) else none
  | .len, .list xs => some (.d (.int xs.length))
  | .len, .tuple xs => some (.d (.int xs.length))
  | .list, .list xs => some (.f (.list xs))
  | .list, .tuple xs => some (.f (.list xs))
  | .list, .dict [(.none, .list xs)] => some (.f (.list xs))
  | .tuple, .list xs => some (.d (.tuple xs))
  | .tuple, .tuple xs => some (.d (.tuple xs))
  | .sum, .list xs => (intsL xs).map fun ns => .d (.int ns.sum)
  | .all, .list xs => (boolsL xs).map fun bs => .d (.bool (bs.all id))
  | .any, .list xs => (boolsL xs).map fun bs => .d (.bool (bs.any id))
  | .max, .list xs => match intsL xs with
    | some (x :: r) => some (.d (.int (maxL x r)))
    | _ => none
  | .min, .list xs => match intsL xs with
    | some (x :: r) => some (.d (.int (minL x r)))
    | _ => none
  | .str, .int i => if i.natAbs.log2 < 1920 then some (.d (.str (toString i))) else none
  | .repr, .bool b => some (.d (.str (if b then "True" else "False")))
  | .repr, .int i => if i.natAbs.log2 < 1920 then some (.d (.str (toString i))) else none
  | _, _ => none
def b2 : B2 → D → D → Option D
  | .max, .int i, .int j => some (.int (if j > i then j else i))
  | .min, .int i, .int j => some (.int (if j < i then j else i))
  | _, _, _ => none
def itemsOf : D → Option (List D)
  | .list xs => some xs
  | .tuple xs => some xs
  | .str z => some (z.cps.toList.map fun c => .str ⟨#[c]⟩)
  | _ => none
def listOf : D → Option (List D)
  | .list xs => some xs
  | .tuple xs => some xs
  | _ => none
def rng (lo : Int) : Nat → List D
  | 0 => []
  | n + 1 => .int lo :: rng (lo + 1) n
def small62 (i : Int) : Bool := decide (-P62 ≤ i) && decide (i < P62)
def enumD : Nat → List D → List D
  | _, [] => []
  | i, x :: r => .tuple [.int i, x] :: enumD (i + 1) r
def zipD : List D → List D → List D
  | x :: r, y :: q => .tuple [x, y] :: zipD r q
  | _, _ => []

/-! ### dicts of ints and texts -/
def keyIs : D → D → Bool
  | .int i, .int j => i == j
  | .str x, .str y => x == y
  | _, _ => false
def isKey : D → Bool
  | .int _ => true
  | .str _ => true
  | _ => false
def lookD : List (D × D) → D → Option D
  | [], _ => none
  | p :: r, k => if keyIs p.1 k then some p.2 else lookD r k
def putD (ps : List (D × D)) (k v : D) : List (D × D) :=
  if (ps.any fun p => keyIs p.1 k) = true then ps.map (fun p => if keyIs p.1 k = true then (p.1, v) else p) else ps ++ [(k, v)]
/-- what d.get(k) finds -/
def getD1 : D → D → Option (Option D)
  | .dict ps, k => if isKey k && ps.all (fun p => isKey p.1) then some (lookD ps k) else none
  | _, _ => none
def dispD (ks : List Const) (vs : List D) : Option (List (D × D)) :=
  if ks.length = vs.length ∧ ks.length ≤ 15 ∧ ks ≠ [] ∧ (ks.all fun c => match c with | .int _ => true | .str _ => true | _ => false) then
    some ((ks.zip vs).foldl (fun ps p => match p.1 with
      | .int i => putD ps (.int i) p.2
      | .str x => putD ps (.str x) p.2
      | _ => ps) [])
  else none

/-! ### dicts whose keys are tuples: a first pair (none, 0) marks them -/
def keysEq : List D → List D → Bool
  | [], [] => true
  | a :: r, b :: q => keyIs a b && keysEq r q
  | _, _ => false
def tkIs : D → List D → Bool
  | .tuple es, ds => keysEq es ds
  | _, _ => false
def lookT : List (D × D) → List D → Option D
  | [], _ => none
  | p :: r, ks => if tkIs p.1 ks = true then some p.2 else lookT r ks
def putT (ps : List (D × D)) (ks : List D) (v : D) : List (D × D) :=
  if (ps.any fun p => tkIs p.1 ks) = true then ps.map (fun p => if tkIs p.1 ks = true then (p.1, v) else p) else ps ++ [(.tuple ks, v)]
def markT : D × D := (.none, .int 0)
def getT : D → List D → Option (Option D)
  | .dict ((.none, .int 0) :: ps), ks => if (ks.all isKey && decide (ks.length ≤ SZ)) = true then some (lookT ps ks) else none
  | _, _ => none
def intsT : D → Option (List Int)
  | .tuple ds => intsL ds
  | _ => none
def hashI (l : List Int) : Int := reduceHash (Builtin.Tuple.tupleHashOf (l.map hashInt))
def hashesT : List (D × D) → Option (List Int)
  | [] => some []
  | p :: r => match intsT p.1, hashesT r with
    | some l, some hs => some (hashI l :: hs)
    | _, _ => none
def nodupI : List Int → Bool
  | [] => true
  | x :: r => !r.contains x && nodupI r
/-- d[k] = v -/
def mrgS : D → List D → D → Option D
  | .dict ((.none, .int 0) :: ps), ks, v => if ((ks.all isKey && decide (ks.length ≤ SZ)) && decide (ps.length < SZ)) = true then some (.dict (markT :: putT ps ks v)) else none
  | _, _, _ => none
/-- {**d, k: v} -/
def mrgK : D → D → D → Option D
  | .dict ps, k, v => if isKey k && ps.all (fun p => isKey p.1) && decide (ps.length < SZ) then some (.dict (putD ps k v)) else none
  | _, _, _ => none
def mrgT : D → List D → D → Option D
  | .dict ((.none, .int 0) :: ps), ks, v => match hashesT ps with
    | some hs => if ((ks.all isKey && decide (ks.length ≤ SZ)) && nodupI hs && decide (ps.length < SZ)) = true then some (.dict (markT :: putT ps ks v)) else none
    | none => none
  | _, _, _ => none

/-! ### built-ins of one argument, more -/
inductive U1 where
  | srt | sst | lns | lvs | lks | dks | dts | lrg
  deriving DecidableEq
/-- a tuple with an item at least -/
def tupB : D → Bool
  | .tuple (_ :: _) => true
  | _ => false
def othB : D → Bool
  | .tuple _ => false
  | .none => false
  | _ => true
def srtOk (ds : List D) : Bool := decide (ds.length ≤ SZ) && (ds.all (fun d => ds.all (PySem.W.alike d)) && ((ds.all tupB || ds.all othB) && ds.all (fun d => decide (d.depth ≤ 60))))
def leD : D → D → Bool := PySem.W.dataLe false id
def srtD (ds : List D) : List D := ds.mergeSort leD
/-- ascending, each once -/
def insU (x : Int) : List Int → List Int
  | [] => [x]
  | y :: r => if x < y then x :: y :: r else if x = y then y :: r else y :: insU x r
def sortU : List Int → List Int
  | [] => []
  | x :: r => insU x (sortU r)
def itemsD : D → Option (List (D × D))
  | .dict [(.none, .list _)] => none
  | .dict ((.none, .int 0) :: ps) => some ps
  | .dict ps => if ps.all (fun p => isKey p.1) = true then some ps else none
  | _ => none
def pairsK : List D → Option (List (D × D))
  | [] => some []
  | .tuple [k, v] :: r => if isKey k = true then (pairsK r).map ((k, v) :: ·) else none
  | _ => none
def pairsT : List D → Option (List (List D × D))
  | [] => some []
  | .tuple [.tuple ks, v] :: r => if (ks.all isKey && decide (ks.length ≤ SZ)) = true then (pairsT r).map ((ks, v) :: ·) else none
  | _ => none
def u1 : U1 → D → Option TV
  | .srt, .list xs => if srtOk xs = true then some (.f (.list (srtD xs))) else none
  | .sst, .list xs => if xs.length < 64 then (intsL xs).map fun ns => .f (.list ((sortU ns).map .int)) else none
  | .lns, .list xs => if xs.length < 64 then (intsL xs).map fun ns => .d (.int (sortU ns).length) else none
  | .lvs, d => (itemsD d).map fun ps => .f (.list (ps.map (·.2)))
  | .lks, d => (itemsD d).map fun ps => .f (.list (ps.map (·.1)))
  | .dks, .list xs => if xs.length ≤ SZ then (pairsK xs).map fun ps => .f (.dict (ps.foldl (fun m p => putD m p.1 p.2) [])) else none
  | .dts, .list xs => if xs.length ≤ SZ then (pairsT xs).map fun ps => .f (.dict (markT :: ps.foldl (fun m p => putT m p.1 p.2) [])) else none
  | .lrg, .int j => if 0 ≤ j ∧ j ≤ 16777216 then some (.f (.list (rng 0 j.toNat))) else none
  | _, _ => none
/-! ### the tree -/
inductive IT where
  | n (i : Nat) (m : Bool)
  | t (l : List IT)
mutual
inductive IE where
  | cst (d : Const)
  | var (i : Nat)
  | glob (x : Str) (d : D)
  | bin (o : Bo) (a b : IE)
  | neg (a : IE)
  | cmp (o : Co) (a b : IE)
  | chn (o p : Co) (a b c : IE)
  | not (a : IE)
  | and (a b : IE)
  | or (a b : IE)
  | ife (c a b : IE)
  | tup (l : IA)
  | lst (l : IA)
  | idx (a i : IE)
  | slc (a : IE) (lo hi : IO)
  | isi (a : IE) (t : Ty)
  | call (f : Nat) (x : Str) (l : IA)
  | bl1 (b : B1) (a : IE)
  | un (u : U1) (a : IE)
  | bl2 (b : B2) (a c : IE)
  | dsp (ks : List Const) (l : IA)
  | mg1 (o k : IE)
  | mg2 (o k d : IE)
  | emp (t : Bool)
  | din (n : Bool) (k d : IE)
  | dix (d k : IE)
  | sdk (d k v : IE)
  | tin (n : Bool) (l : IA) (d : IE)
  | tix (d : IE) (l : IA)
  | tg1 (d : IE) (l : IA)
  | tg2 (d : IE) (l : IA) (e : IE)
  | sdt (d : IE) (l : IA) (v : IE)
  | cm1 (own : List (Str × Nat)) (elt : IE) (t : IT) (it : II) (c : IO)
  | cmo (own : List (Str × Nat)) (elt : IE) (t : IT) (i : Nat) (c : IO)
  | cm2 (own : List (Str × Nat)) (own2 : List Nat) (elt : IE) (t : IT) (it : II) (c : IO) (t2 : IT) (it2 : II) (c2 : IO)
inductive IA where
  | nil
  | cons (a : IE) (r : IA)
  | lend (i : Nat) (r : IA)
inductive IO where
  | no
  | yes (a : IE)
inductive II where
  | val (a : IE)
  | rg1 (a : IE)
  | rg2 (a b : IE)
  | enm (a : IE)
  | zip (a b : IE)
end
mutual
inductive IS where
  | asg (t : IT) (e : IE)
  | asp (t : List IT) (l : IA)
  | sto (i : Nat) (k e : IE)
  | dst (i : Nat) (k e : IE)
  | tst (i : Nat) (l : IA) (e : IE)
  | app (i : Nat) (e : IE)
  | ex (e : IE)
  | ret (e : IE)
  | retN
  | ifs (c : IE) (a b : IB)
  | whl (c : IE) (a : IB)
  | fr (t : IT) (it : II) (a : IB)
  | pas | brk | cnt
  | rse (c : Str)
inductive IB where
  | nil
  | cons (a : IS) (r : IB)
end

/-! ### stores -/
def asn1 (i : Nat) (m : Bool) (v : TV) (r : Env) : Res Unit :=
  match r[i]? with
  | some (.bor _) => .stuck
  | none => .stuck
  | some _ => if m then
      match v with
      | .f d => .ok () (r.set i (.own d))
      | _ => .stuck
    else match solid r v with
      | some (d, r') => .ok () (r'.set i (.val d))
      | none => .stuck
mutual
def asn : IT → TV → Env → Res Unit
  | .n i m, v, r => asn1 i m v r
  | .t l, v, r => match deref r v with
    | some (.tuple xs) => asnL l xs r
    | _ => .stuck
def asnL : List IT → List D → Env → Res Unit
  | [], [], r => .ok () r
  | t :: ts, x :: xs, r => (asn t (.d x) r).bind fun _ r' => asnL ts xs r'
  | _, _, _ => .stuck
end
def asnP : List IT → List TV → Env → Res Unit
  | [], [], r => .ok () r
  | t :: ts, x :: xs, r => (asn t x r).bind fun _ r' => asnP ts xs r'
  | _, _, _ => .stuck
/-- the object of a slot is changed -/
def setAt (r : Env) (i : Nat) (d : D) : Env :=
  match r[i]? with
  | some (.own _) => r.set i (.own d)
  | some (.bor _) => r.set i (.bor d)
  | _ => r
def mutAt (r : Env) (i : Nat) : Option D :=
  match r[i]? with
  | some (.own d) => some d
  | some (.bor d) => some d
  | _ => none

/-! ### loops -/
def forL (f : D → Env → Res Fl) : List D → Env → Res Fl
  | [], r => .ok .nx r
  | x :: xs, r => match f x r with
    | .ok .nx r' => forL f xs r'
    | .ok .cnt r' => forL f xs r'
    | .ok .brk r' => .ok .nx r'
    | .ok (.ret b v) r' => .ok (.ret b v) r'
    | .exc c d r' => .exc c d r'
    | .stuck => .stuck
def whileN (c : Env → Res Bool) (f : Env → Res Fl) : Nat → Env → Res Fl
  | 0, _ => .stuck
  | n + 1, r => (c r).bind fun t r1 => match t with
    | false => .ok .nx r1
    | true => match f r1 with
      | .ok .nx r' => whileN c f n r'
      | .ok .cnt r' => whileN c f n r'
      | .ok .brk r' => .ok .nx r'
      | .ok (.ret b v) r' => .ok (.ret b v) r'
      | .exc c d r' => .exc c d r'
      | .stuck => .stuck
def wipeE : List Nat → Env → Env
  | [], r => r
  | i :: l, r => (wipeE l r).set i .un
/-- the slots of a block's own names, as they were -/
def backE (r0 : Env) : List Nat → Env → Env
  | [], r => r
  | i :: l, r => (backE r0 l r).set i (r0.getD i .un)
/-- over the list that a slot holds: the item is looked up anew at each turn -/
def compO (f : D → Env → Res (List D)) (i : Nat) : Nat → Nat → Env → Res (List D)
  | 0, k, r => match mutAt r i with
    | some (.list xs) => if xs.length = k then .ok [] r else .stuck
    | _ => .stuck
  | n + 1, k, r => match mutAt r i with
    | some (.list xs) => match xs[k]? with
      | some x => match f x r with
        | .ok ys r' => match compO f i n (k + 1) r' with
          | .ok zs r'' => .ok (ys ++ zs) r''
          | _ => .stuck
        | _ => .stuck
      | none => .stuck
    | _ => .stuck
def compL (f : D → Env → Res (List D)) : List D → Env → Res (List D)
  | [], r => .ok [] r
  | x :: xs, r => match f x r with
    | .ok ys r' => match compL f xs r' with
      | .ok zs r'' => .ok (ys ++ zs) r''
      | _ => .stuck
    | _ => .stuck

/-! ### calls -/
inductive Ar where
  | v (d : D) | l (i : Nat)
def lends : List Ar → List Nat
  | [] => []
  | .v _ :: r => lends r
  | .l i :: r => i :: lends r
def argS (r : Env) : Ar → Option Sl
  | .v d => some (.val d)
  | .l i => (mutAt r i).map .bor
def argsS (r : Env) : List Ar → Option (List Sl)
  | [] => some []
  | a :: l => (argS r a).bind fun s => (argsS r l).map (s :: ·)
def outsE : List Nat → List D → Env → Option Env
  | [], [], r => some r
  | i :: l, d :: ds, r => outsE l ds (setAt r i d)
  | _, _, _ => none
def doCall (call : Nat → List Sl → CR) (f : Nat) (as : List Ar) (r : Env) : Res TV :=
  match argsS r as with
  | none => .stuck
  | some ss => if (lends as).Nodup then
      match call f ss with
      | .ok fr v outs => match outsE (lends as) outs r with
        | some r' => .ok (if fr then .f v else .d v) r'
        | none => .stuck
      | .exc c d => if lends as = [] then .exc c d r else .stuck
      | .stuck => .stuck
    else .stuck

def cstD : Const → Option D
  | .none => some .none
  | .bool b => some (.bool b)
  | .int i => some (.int i)
  | .str s => some (.str s)
  | _ => none
def optI (o : Option D) : Option (Option Int) :=
  match o with
  | none => some none
  | some (.int i) => some (some i)
  | _ => none

/-! ### expressions -/
section
variable (call : Nat → List Sl → CR)
/-- a value's trees, and the test by its truth -/
def tst (f : Env → Res TV) : (Env → Res TV) × (Env → Res Bool) :=
  (f, fun r => (f r).bind fun x r1 => match deref r1 x with
    | some u => .of (truth u) r1
    | none => .stuck)
mutual
def ev : IE → (Env → Res TV) × (Env → Res Bool)
  | .cst d => tst fun r => match cstD d with
    | some v => .ok (.d v) r
    | none => .stuck
  | .var i => tst fun r => match r[i]? with
    | some (.val d) => .ok (.d d) r
    | some (.own _) => .ok (.s i) r
    | some (.bor _) => .ok (.s i) r
    | _ => .stuck
  | .glob _ d => tst fun r => .ok (.d d) r
  | .bin o a b => tst fun r => ((ev a).1 r).bind fun x r1 => ((ev b).1 r1).bind fun y r2 =>
      match deref r2 x, deref r2 y with
      | some u, some v => .of (bop o u v) r2
      | _, _ => .stuck
  | .neg a => tst fun r => ((ev a).1 r).bind fun x r1 => match x with
      | .d (.int i) => .ok (.d (.int (-i))) r1
      | _ => .stuck
  | .cmp o a b => tst fun r => ((ev a).1 r).bind fun x r1 => ((ev b).1 r1).bind fun y r2 =>
      match deref r2 x, deref r2 y with
      | some u, some v => .of ((cop o u v).map fun t => .d (.bool t)) r2
      | _, _ => .stuck
  | .chn o p a b c => tst fun r => ((ev a).1 r).bind fun x r1 => ((ev b).1 r1).bind fun y r2 =>
      match deref r2 x, deref r2 y with
      | some u, some v => match cop o u v with
        | some true => ((ev c).1 r2).bind fun z r3 => match deref r3 y, deref r3 z with
          | some v', some w => .of ((cop p v' w).map fun t => .d (.bool t)) r3
          | _, _ => .stuck
        | some false => .ok (.d (.bool false)) r2
        | none => .stuck
      | _, _ => .stuck
  | .not a => (fun r => ((tst (ev a).1).2 r).bind fun t r1 => .ok (.d (.bool (!t))) r1, fun r => ((ev a).2 r).bind fun t r1 => .ok (!t) r1)
  | .and a b => (fun r => ((ev a).1 r).bind fun x r1 => match x with
      | .d (.bool true) => (ev b).1 r1
      | .d (.bool false) => .ok (.d (.bool false)) r1
      | _ => .stuck, fun r => ((ev a).2 r).bind fun t r1 => match t with
      | true => (ev b).2 r1
      | false => .ok false r1)
  | .or a b => (fun r => ((ev a).1 r).bind fun x r1 => match x with
      | .d (.bool true) => .ok (.d (.bool true)) r1
      | .d (.bool false) => (ev b).1 r1
      | _ => .stuck, fun r => ((ev a).2 r).bind fun t r1 => match t with
      | true => .ok true r1
      | false => (ev b).2 r1)
  | .ife c a b => (fun r => ((ev c).2 r).bind fun t r1 => match t with
      | true => (ev a).1 r1
      | false => (ev b).1 r1, fun r => ((ev c).2 r).bind fun t r1 => match t with
      | true => (ev a).2 r1
      | false => (ev b).2 r1)
  | .tup l => tst fun r => (evA l r).bind fun xs r1 => if xs.length ≤ SZ then .ok (.d (.tuple xs)) r1 else .stuck
  | .lst l => tst fun r => (evA l r).bind fun xs r1 => if xs.length ≤ SZ then .ok (.f (.list xs)) r1 else .stuck
  | .idx a i => tst fun r => ((ev a).1 r).bind fun x r1 => ((ev i).1 r1).bind fun y r2 =>
      match deref r2 x, deref r2 y with
      | some u, some v => .of ((idx u v).map .d) r2
      | _, _ => .stuck
  | .slc a lo hi => tst fun r => ((ev a).1 r).bind fun x r1 => (evO lo r1).bind fun l r2 => (evO hi r2).bind fun h r3 =>
      match deref r3 x, optI l, optI h with
      | some u, some l', some h' => .of (slice l' h' u) r3
      | _, _, _ => .stuck
  | .isi a t => tst fun r => ((ev a).1 r).bind fun x r1 => match deref r1 x with
      | some u => if notDict u = true then .ok (.d (.bool (isTy t u))) r1 else .stuck
      | none => .stuck
  | .call f _ l => tst fun r => (evR l r).bind fun as r1 => doCall call f as r1
  | .bl1 b a => tst fun r => ((ev a).1 r).bind fun x r1 => match deref r1 x with
      | some u => .of (b1 b u) r1
      | none => .stuck
  | .un u a => tst fun r => ((ev a).1 r).bind fun x r1 => match deref r1 x with
      | some d => .of (u1 u d) r1
      | none => .stuck
  | .bl2 b a c => tst fun r => ((ev a).1 r).bind fun x r1 => ((ev c).1 r1).bind fun y r2 =>
      match deref r2 x, deref r2 y with
      | some u, some v => .of ((b2 b u v).map .d) r2
      | _, _ => .stuck
  | .dsp ks l => tst fun r => (evA l r).bind fun vs r1 => match dispD ks vs with
      | some ps => .ok (.f (.dict ps)) r1
      | none => .stuck
  | .mg1 o k => tst fun r => ((ev o).1 r).bind fun x r1 => (dictR r1 x).bind fun _ r1 => ((ev k).1 r1).bind fun y r2 =>
      match deref r2 x, deref r2 y with
      | some u, some v => .of ((getD1 u v).map fun t => .d (t.getD .none)) r2
      | _, _ => .stuck
  | .mg2 o k d => tst fun r => ((ev o).1 r).bind fun x r1 => (dictR r1 x).bind fun _ r1 => ((ev k).1 r1).bind fun y r2 => ((ev d).1 r2).bind fun z r3 => (solidR r3 z).bind fun w r4 =>
      match deref r4 x, deref r4 y with
      | some u, some v => .of ((getD1 u v).map fun t => .d (t.getD w)) r4
      | _, _ => .stuck
  | .emp t => tst fun r => .ok (.f (.dict (if t = true then [markT] else []))) r
  | .din n k d => tst fun r => ((ev k).1 r).bind fun y r1 => ((ev d).1 r1).bind fun x r2 => match deref r2 x, deref r2 y with
      | some u, some v => .of ((getD1 u v).map fun t => .d (.bool (if n = true then t.isNone else t.isSome))) r2
      | _, _ => .stuck
  | .dix d k => tst fun r => ((ev d).1 r).bind fun x r1 => ((ev k).1 r1).bind fun y r2 => match deref r2 x, deref r2 y with
      | some u, some v => .of ((getD1 u v).bind fun t => t.map .d) r2
      | _, _ => .stuck
  | .sdk d k v => tst fun r => ((ev d).1 r).bind fun x r1 => match deref r1 x with
      | some u => ((ev k).1 r1).bind fun y r2 => ((ev v).1 r2).bind fun z r3 => (solidR r3 z).bind fun w r4 => match deref r4 y with
        | some kd => .of ((mrgK u kd w).map .f) r4
        | none => .stuck
      | none => .stuck
  | .tin n l d => tst fun r => (evA l r).bind fun ds r1 => ((ev d).1 r1).bind fun x r2 => match deref r2 x with
      | some u => .of ((getT u ds).map fun t => .d (.bool (if n = true then t.isNone else t.isSome))) r2
      | none => .stuck
  | .tix d l => tst fun r => ((ev d).1 r).bind fun x r1 => (evA l r1).bind fun ds r2 => match deref r2 x with
      | some u => .of ((getT u ds).bind fun t => t.map .d) r2
      | none => .stuck
  | .tg1 d l => tst fun r => ((ev d).1 r).bind fun x r1 => (dictR r1 x).bind fun _ r1 => (evA l r1).bind fun ds r2 => match deref r2 x with
      | some u => .of ((getT u ds).map fun t => .d (t.getD .none)) r2
      | none => .stuck
  | .tg2 d l e => tst fun r => ((ev d).1 r).bind fun x r1 => (dictR r1 x).bind fun _ r1 => (evA l r1).bind fun ds r2 => ((ev e).1 r2).bind fun z r3 => (solidR r3 z).bind fun w r4 => match deref r4 x with
      | some u => .of ((getT u ds).map fun t => .d (t.getD w)) r4
      | none => .stuck
  | .sdt d l v => tst fun r => ((ev d).1 r).bind fun x r1 => match deref r1 x with
      | some u => (evA l r1).bind fun ds r2 => ((ev v).1 r2).bind fun z r3 => (solidR r3 z).bind fun w r4 => .of ((mrgT u ds w).map .f) r4
      | none => .stuck
  | .cm1 own elt t it c => tst fun r => (evI it r).bind fun xs r1 =>
      match compL (fun x r2 => (asn t (.d x) (wipeE (own.map (·.2)) r2)).bind fun _ r3 =>
          (evT c r3).bind fun ok r4 => match ok with
            | true => ((ev elt).1 r4).bind fun y r5 => (solidR r5 y).bind fun v r6 => .ok [v] r6
            | false => .ok [] r4) xs r1 with
      | .ok ys r2 => if ys.length ≤ SZ then .ok (.f (.list ys)) (backE r1 (own.map (·.2)) r2) else .stuck
      | _ => .stuck
  | .cmo own elt t i c => tst fun r => match mutAt r i with
    | some (.list xs) => if (own.map (·.2)).contains i = true then .stuck else
      match compO (fun x r2 => (asn t (.d x) (wipeE (own.map (·.2)) r2)).bind fun _ r3 =>
          (evT c r3).bind fun ok r4 => match ok with
            | true => ((ev elt).1 r4).bind fun y r5 => (solidR r5 y).bind fun v r6 => .ok [v] r6
            | false => .ok [] r4) i xs.length 0 r with
      | .ok ys r2 => if ys.length ≤ SZ then .ok (.f (.list ys)) (backE r (own.map (·.2)) r2) else .stuck
      | _ => .stuck
    | _ => .stuck
  | .cm2 own own2 elt t it c t2 it2 c2 => tst fun r => (evI it r).bind fun xs r1 =>
      match compL (fun x r2 => (asn t (.d x) (wipeE (own.map (·.2)) r2)).bind fun _ r3 =>
          (evT c r3).bind fun ok r4 => match ok with
            | true => (evI it2 r4).bind fun zs r5 =>
              compL (fun z r6 => (asn t2 (.d z) (wipeE own2 r6)).bind fun _ r7 =>
                (evT c2 r7).bind fun ok2 r8 => match ok2 with
                  | true => ((ev elt).1 r8).bind fun y r9 => (solidR r9 y).bind fun v r10 => .ok [v] r10
                  | false => .ok [] r8) zs r5
            | false => .ok [] r4) xs r1 with
      | .ok ys r2 => if ys.length ≤ SZ then .ok (.f (.list ys)) (backE r1 (own.map (·.2)) r2) else .stuck
      | _ => .stuck
def evA : IA → Env → Res (List D)
  | .nil, r => .ok [] r
  | .cons a l, r => ((ev a).1 r).bind fun x r1 => (solidR r1 x).bind fun v r2 => (evA l r2).bind fun vs r3 => .ok (v :: vs) r3
  | .lend _ _, _ => .stuck
/-- arguments of a call of the text's own def -/
def evR : IA → Env → Res (List Ar)
  | .nil, r => .ok [] r
  | .cons a l, r => ((ev a).1 r).bind fun x r1 => (solidR r1 x).bind fun v r2 => (evR l r2).bind fun vs r3 => .ok (.v v :: vs) r3
  | .lend i l, r => match mutAt r i with
    | some _ => (evR l r).bind fun vs r1 => .ok (.l i :: vs) r1
    | none => .stuck
/-- values, new objects left new -/
def evF : IA → Env → Res (List TV)
  | .nil, r => .ok [] r
  | .cons a l, r => ((ev a).1 r).bind fun x r1 => match x with
      | .f v => (evF l r1).bind fun vs r3 => .ok (.f v :: vs) r3
      | x => (solidR r1 x).bind fun v r2 => (evF l r2).bind fun vs r3 => .ok (.d v :: vs) r3
  | .lend _ _, _ => .stuck
def evO : IO → Env → Res (Option D)
  | .no, r => .ok none r
  | .yes a, r => ((ev a).1 r).bind fun x r1 => match deref r1 x with
      | some u => .ok (some u) r1
      | none => .stuck
def evT : IO → Env → Res Bool
  | .no, r => .ok true r
  | .yes a, r => (ev a).2 r
def evI : II → Env → Res (List D)
  | .val a, r => ((ev a).1 r).bind fun x r1 => (solidR r1 x).bind fun v r2 => .of (itemsOf v) r2
  | .rg1 a, r => ((ev a).1 r).bind fun x r1 => match deref r1 x with
      | some (.int j) => if small62 j then .ok (rng 0 j.toNat) r1 else .stuck
      | _ => .stuck
  | .rg2 a b, r => ((ev a).1 r).bind fun x r1 => ((ev b).1 r1).bind fun y r2 => match deref r2 x, deref r2 y with
      | some (.int i), some (.int j) => if small62 i && small62 j then .ok (rng i (j - i).toNat) r2 else .stuck
      | _, _ => .stuck
  | .enm a, r => ((ev a).1 r).bind fun x r1 => (solidR r1 x).bind fun v r2 => match listOf v with
      | some xs => .ok (enumD 0 xs) r2
      | none => .stuck
  | .zip a b, r => ((ev a).1 r).bind fun x r1 => (solidR r1 x).bind fun v r2 => ((ev b).1 r2).bind fun y r3 => (solidR r3 y).bind fun w r4 =>
      match listOf v, listOf w with
      | some xs, some ys => .ok (zipD xs ys) r4
      | _, _ => .stuck
end
abbrev evE (e : IE) (r : Env) : Res TV := (ev call e).1 r
abbrev evC (e : IE) (r : Env) : Res Bool := (ev call e).2 r

/-! ### statements -/
variable (W : Nat)
mutual
def evS : IS → Env → Res Fl
  | .asg t e, r => (evE call e r).bind fun x r1 => (asn t x r1).bind fun _ r2 => .ok .nx r2
  | .asp ts l, r => (evF call l r).bind fun xs r1 => if xs.length ≤ SZ then (asnP ts xs r1).bind fun _ r2 => .ok .nx r2 else .stuck
  | .sto i k e, r => (evE call e r).bind fun x r1 => (solidR r1 x).bind fun v r2 => match mutAt r2 i with
      | some _ => (evE call k r2).bind fun y r3 =>
        match mutAt r3 i, deref r3 y with
        | some (.list xs), some (.int j) => match ixN xs.length j with
          | some m => .ok .nx (setAt r3 i (.list (xs.set m v)))
          | none => .stuck
        | _, _ => .stuck
      | none => .stuck
  | .dst i k e, r => (evE call e r).bind fun x r1 => (solidR r1 x).bind fun v r2 => match mutAt r2 i with
      | some _ => (evE call k r2).bind fun y r3 => match mutAt r3 i, deref r3 y with
        | some u, some kd => match mrgK u kd v with
          | some d => .ok .nx (setAt r3 i d)
          | none => .stuck
        | _, _ => .stuck
      | none => .stuck
  | .tst i l e, r => (evE call e r).bind fun x r1 => (solidR r1 x).bind fun v r2 => match mutAt r2 i with
      | some _ => (evA call l r2).bind fun ds r3 => match mutAt r3 i with
        | some u => match mrgS u ds v with
          | some d => .ok .nx (setAt r3 i d)
          | none => .stuck
        | none => .stuck
      | none => .stuck
  | .app i e, r => match mutAt r i with
    | some (.list _) => (evE call e r).bind fun x r1 => (solidR r1 x).bind fun v r2 => match mutAt r2 i with
      | some (.list xs) => if xs.length < SZ then .ok .nx (setAt r2 i (.list (xs ++ [v]))) else .stuck
      | _ => .stuck
    | _ => .stuck
  | .ex e, r => (evE call e r).bind fun _ r1 => .ok .nx r1
  | .ret e, r => (evE call e r).bind fun x r1 => match x with
      | .d v => .ok (.ret false v) r1
      | .f v => .ok (.ret true v) r1
      | .s i => match r1[i]? with
        | some (.own d) => .ok (.ret true d) r1
        | _ => .stuck
  | .retN, r => .ok (.ret false .none) r
  | .ifs c a b, r => (evC call c r).bind fun t r1 => match t with
      | true => evB a r1
      | false => evB b r1
  | .whl c a, r => whileN (fun r => evC call c r) (fun r => evB a r) W r
  | .fr t it a, r => (evI call it r).bind fun xs r1 => forL (fun x r2 => (asn t (.d x) r2).bind fun _ r3 => evB a r3) xs r1
  | .pas, r => .ok .nx r
  | .brk, r => .ok .brk r
  | .cnt, r => .ok .cnt r
  | .rse c, r => .exc c .none r
def evB : IB → Env → Res Fl
  | .nil, r => .ok .nx r
  | .cons a l, r => match evS a r with
    | .ok .nx r1 => evB l r1
    | o => o
end
end

/-- a def: its name, its names by slot, how many of them are parameters, its body -/
structure Df where
  name : Str
  names : List Str
  np : Nat
  body : IB

def outsOf : List Sl → Env → Option (List D)
  | [], _ => some []
  | .bor _ :: l, .bor d :: r => (outsOf l r).map (d :: ·)
  | .bor _ :: _, _ => none
  | _ :: l, _ :: r => outsOf l r
  | _ :: _, [] => none
def endCall (as : List Sl) (b : Bool) (v : D) (r : Env) : CR :=
  match outsOf as r with
  | some os => .ok b v os
  | none => .stuck
def runDef (call : Nat → List Sl → CR) (W : Nat) (df : Df) (as : List Sl) : CR :=
  if as.length = df.np then
    match evB call W df.body (as ++ List.replicate (df.names.length - df.np) .un) with
    | .ok .nx r => endCall as false .none r
    | .ok (.ret b v) r => endCall as b v r
    | .ok _ _ => .stuck
    | .exc c d _ => .exc c d
    | .stuck => .stuck
  else .stuck
def callN (P : List Df) (W : Nat) : Nat → Nat → List Sl → CR
  | 0, _, _ => .stuck
  | n + 1, f, as => match P[f]? with
    | some df => runDef (callN P W n) W df as
    | none => .stuck
end Ev


end
section
set_option linter.all false
set_option maxHeartbeats 1000000
/-! What the evaluator's states say of the heap. -/
namespace Ev
open PySem PySem.Spec PyProof.Rows L2

abbrev Fg := PySem.W.Frag
def keyD : Key → D
  | .inl i => .int i
  | .inr x => .str x
def keyTD (l : List Key) : D := .tuple (l.map keyD)

mutual
/-- the value v, in the part F of the heap that nothing changes any more, is the datum -/
inductive Rp (K : Fg) (F : Hp) : V → D → Prop
  | non : Rp K F .non .none
  | bl (b : Bool) : Rp K F (.bl b) (.bool b)
  | int (i : Int) : Rp K F (.int i) (.int i)
  | str (x : Str) : Rp K F (.str x) (.str x)
  | lst {a : Addr} {xs : List V} {ds : List D} : F a = some (.lst xs) → RpL K F xs ds → Rp K F (.ref a) (.list ds)
  | tup {a : Addr} {xs : List V} {ds : List D} : SqT K F a xs → RpL K F xs ds → Rp K F (.ref a) (.tuple ds)
  | dic {a : Addr} {kvs : List (Key × V)} {ps : List (D × D)} : F a = some (.dK kvs) → RpK K F kvs ps → Rp K F (.ref a) (.dict ps)
  | scr {a : Addr} {xs : List V} {ds : List D} : SqL K F a xs → RpL K F xs ds → Rp K F (.ref a) (.dict [(.none, .list ds)])
  | dit {a : Addr} {kvs : List (List Key × V)} {ps : List (D × D)} : F a = some (.dT kvs) → RpT K F kvs ps → Rp K F (.ref a) (.dict ((.none, .int 0) :: ps))
inductive RpL (K : Fg) (F : Hp) : List V → List D → Prop
  | nil : RpL K F [] []
  | cons {v : V} {vs : List V} {d : D} {ds : List D} : Rp K F v d → RpL K F vs ds → RpL K F (v :: vs) (d :: ds)
inductive RpK (K : Fg) (F : Hp) : List (Key × V) → List (D × D) → Prop
  | nil : RpK K F [] []
  | cons {k : Key} {v : V} {d : D} {kvs : List (Key × V)} {ps : List (D × D)} : Rp K F v d → RpK K F kvs ps → RpK K F ((k, v) :: kvs) ((keyD k, d) :: ps)
inductive RpT (K : Fg) (F : Hp) : List (List Key × V) → List (D × D) → Prop
  | nil : RpT K F [] []
  | cons {k : List Key} {v : V} {d : D} {kvs : List (List Key × V)} {ps : List (D × D)} : Rp K F v d → RpT K F kvs ps → RpT K F ((k, v) :: kvs) ((keyTD k, d) :: ps)
end
/-- the heap's part is within -/
def Sub (F H : Hp) : Prop := ∀ a o, F a = some o → H a = some o
theorem Sub.refl (H : Hp) : Sub H H := fun _ _ h => h
theorem Sub.trans {F G H : Hp} (a : Sub F G) (b : Sub G H) : Sub F H := fun c o h => b c o (a c o h)
theorem Sub.rd {F H : Hp} (s : Sub F H) {a : Addr} {u : HO} (r : Rd F a u) : Rd H a u := by
  rcases r with r | ⟨o, r⟩
  · exact .inl (s _ _ r)
  · exact .inr ⟨o, s _ _ r⟩
theorem Sub.sql {K : Fg} {F H : Hp} (s : Sub F H) {a : Addr} {xs : List V} (r : SqL K F a xs) : SqL K H a xs := by
  rcases r with r | r
  · exact .inl (s.rd r)
  · exact .inr r
theorem Sub.sqt {K : Fg} {F H : Hp} (s : Sub F H) {a : Addr} {xs : List V} (r : SqT K F a xs) : SqT K H a xs := by
  rcases r with r | r
  · exact .inl (s.rd r)
  · exact .inr r
mutual
theorem Rp.mono {K : Fg} {F H : Hp} (s : Sub F H) : ∀ {v : V} {d : D}, Rp K F v d → Rp K H v d
  | _, _, .non => .non
  | _, _, .bl b => .bl b
  | _, _, .int i => .int i
  | _, _, .str x => .str x
  | _, _, .lst h r => .lst (s _ _ h) (RpL.mono s r)
  | _, _, .tup h r => .tup (s.sqt h) (RpL.mono s r)
  | _, _, .dic h r => .dic (s _ _ h) (RpK.mono s r)
  | _, _, .scr h r => .scr (s.sql h) (RpL.mono s r)
  | _, _, .dit h r => .dit (s _ _ h) (RpT.mono s r)
theorem RpL.mono {K : Fg} {F H : Hp} (s : Sub F H) : ∀ {v : List V} {d : List D}, RpL K F v d → RpL K H v d
  | _, _, .nil => .nil
  | _, _, .cons h r => .cons (Rp.mono s h) (RpL.mono s r)
theorem RpK.mono {K : Fg} {F H : Hp} (s : Sub F H) : ∀ {v : List (Key × V)} {d : List (D × D)}, RpK K F v d → RpK K H v d
  | _, _, .nil => .nil
  | _, _, .cons h r => .cons (Rp.mono s h) (RpK.mono s r)
theorem RpT.mono {K : Fg} {F H : Hp} (s : Sub F H) : ∀ {v : List (List Key × V)} {d : List (D × D)}, RpT K F v d → RpT K H v d
  | _, _, .nil => .nil
  | _, _, .cons h r => .cons (Rp.mono s h) (RpT.mono s r)
end
theorem RpL.length {K : Fg} {F : Hp} : ∀ {v : List V} {d : List D}, RpL K F v d → v.length = d.length
  | _, _, .nil => rfl
  | _, _, .cons _ r => by rw [List.length_cons, List.length_cons, RpL.length r]
theorem RpL.get {K : Fg} {F : Hp} : ∀ {v : List V} {d : List D}, RpL K F v d → ∀ (i : Nat) (x : D), d[i]? = some x → ∃ y, v[i]? = some y ∧ Rp K F y x
  | _, _, .nil, i, x, e => by simp at e
  | _, _, .cons h r, 0, x, e => by
    simp only [List.getElem?_cons_zero, Option.some.injEq] at e
    subst e
    exact ⟨_, by simp, h⟩
  | _, _, .cons h r, i + 1, x, e => by
    simp only [List.getElem?_cons_succ] at e
    obtain ⟨y, h1, h2⟩ := RpL.get r i x e
    exact ⟨y, by simpa using h1, h2⟩
theorem RpL.append {K : Fg} {F : Hp} : ∀ {v w : List V} {d e : List D}, RpL K F v d → RpL K F w e → RpL K F (v ++ w) (d ++ e)
  | _, _, _, _, .nil, r => r
  | _, _, _, _, .cons h r, q => .cons h (RpL.append r q)
theorem RpL.take {K : Fg} {F : Hp} : ∀ {v : List V} {d : List D} (n : Nat), RpL K F v d → RpL K F (v.take n) (d.take n)
  | _, _, 0, _ => by simp only [List.take_zero]; exact .nil
  | _, _, n + 1, .nil => .nil
  | _, _, n + 1, .cons h r => .cons h (RpL.take n r)
theorem RpL.drop {K : Fg} {F : Hp} : ∀ {v : List V} {d : List D} (n : Nat), RpL K F v d → RpL K F (v.drop n) (d.drop n)
  | _, _, 0, r => r
  | _, _, n + 1, .nil => .nil
  | _, _, n + 1, .cons h r => RpL.drop n r
theorem RpL.rep {K : Fg} {F : Hp} {v : List V} {d : List D} (h : RpL K F v d) : ∀ n, RpL K F (List.replicate n v).flatten (List.replicate n d).flatten
  | 0 => .nil
  | n + 1 => by
    rw [List.replicate_succ, List.replicate_succ, List.flatten_cons, List.flatten_cons]
    exact h.append (RpL.rep h n)
theorem RpL.set {K : Fg} {F : Hp} : ∀ {v : List V} {d : List D} (i : Nat) {x : V} {y : D}, RpL K F v d → Rp K F x y → RpL K F (v.set i x) (d.set i y)
  | _, _, _, _, _, .nil, _ => .nil
  | _, _, 0, _, _, .cons _ r, q => .cons q r
  | _, _, i + 1, _, _, .cons h r, q => .cons h (RpL.set i r q)
theorem RpL.nil_iff {K : Fg} {F : Hp} {v : List V} {d : List D} (h : RpL K F v d) : v.isEmpty = d.isEmpty := by
  cases h <;> rfl
theorem RpL.of {K : Fg} {F : Hp} {α : Type} (f : α → V) (g : α → D) (h : ∀ a, Rp K F (f a) (g a)) : ∀ l : List α, RpL K F (l.map f) (l.map g)
  | [] => .nil
  | a :: l => .cons (h a) (RpL.of f g h l)

/-- the object o is the datum, its parts in F -/
def ObR (K : Fg) (F : Hp) (o : HO) : D → Prop
  | .list ds => ∃ xs, o = .lst xs ∧ RpL K F xs ds
  | .dict ps => (∃ kvs, o = .dK kvs ∧ RpK K F kvs ps) ∨ (∃ kvs qs, ps = (.none, .int 0) :: qs ∧ o = .dT kvs ∧ RpT K F kvs qs)
  | _ => False
theorem ObR.mono {K : Fg} {F H : Hp} (s : Sub F H) {o : HO} {d : D} (h : ObR K F o d) : ObR K H o d := by
  cases d with
  | list ds => obtain ⟨xs, e, r⟩ := h; exact ⟨xs, e, r.mono s⟩
  | dict ps =>
    rcases h with ⟨kvs, e, r⟩ | ⟨kvs, qs, e0, e, r⟩
    · exact .inl ⟨kvs, e, r.mono s⟩
    · exact .inr ⟨kvs, qs, e0, e, r.mono s⟩
  | _ => exact h
theorem ObR.rp {K : Fg} {F : Hp} {o : HO} {d : D} {a : Addr} (h : ObR K F o d) (e : F a = some o) : Rp K F (.ref a) d := by
  cases d with
  | list ds =>
    obtain ⟨xs, e1, r⟩ := h
    subst e1
    exact .lst e r
  | dict ps =>
    rcases h with ⟨kvs, e1, r⟩ | ⟨kvs, qs, e0, e1, r⟩
    · subst e1; exact .dic e r
    · subst e0 e1; exact .dit e r
  | none => exact h.elim
  | bool b => exact h.elim
  | int i => exact h.elim
  | str s => exact h.elim
  | tuple l => exact h.elim

/-- the frame's own (or lent) object at a -/
def Own (σ : L2.St) (r : Env) (a : Addr) : Prop := ∃ (i : Nat) (d : D), (r[i]? = some (.own d) ∨ r[i]? = some (.bor d)) ∧ σ[i]? = some (some (.ref a))
/-- the def's entry: its heap, where the lent objects stand by slot -/
structure Bs where
  h : Hp
  l : Nat → Addr → Prop
/-- B: the heap at the def's entry; F: the part that stays; H: the heap -/
structure StR (K : Fg) (B : Bs) (F H : Hp) (σ : L2.St) (r : Env) : Prop where
  sub : Sub F H
  dom : ∀ a, B.h a ≠ none → H a ≠ none
  len : σ.length = r.length
  val : ∀ (i : Nat) (d : D), r[i]? = some (.val d) → ∃ x, σ[i]? = some (some x) ∧ Rp K F x d
  obj : ∀ (i : Nat) (d : D), (r[i]? = some (.own d) ∨ r[i]? = some (.bor d)) → ∃ a o, σ[i]? = some (some (.ref a)) ∧ H a = some o ∧ F a = none ∧ ObR K F o d
  new : ∀ (i : Nat) (d : D) (a : Addr), r[i]? = some (.own d) → σ[i]? = some (some (.ref a)) → B.h a = none
  lnt : ∀ (i : Nat) (d : D) (a : Addr), r[i]? = some (.bor d) → σ[i]? = some (some (.ref a)) → B.l i a
  inj : ∀ (i j : Nat) (d e : D) (a : Addr), (r[i]? = some (.own d) ∨ r[i]? = some (.bor d)) → (r[j]? = some (.own e) ∨ r[j]? = some (.bor e)) → σ[i]? = some (some (.ref a)) → σ[j]? = some (some (.ref a)) → i = j

/-- from one state to a later one, the slots' values the same -/
structure Post (K : Fg) (B : Bs) (σ : L2.St) (r : Env) (F H : Hp) (r' : Env) (F' H' : Hp) : Prop where
  st : StR K B F' H' σ r'
  mono : Sub F F'
  frame : ∀ a o, H a = some o → ¬ Own σ r a → H' a = some o
  dom : ∀ a, H a ≠ none → H' a ≠ none
  fr : ∀ a, F' a ≠ none → F a ≠ none ∨ H a = none ∨ Own σ r a
  own : ∀ a, Own σ r' a → Own σ r a
theorem Post.refl {K : Fg} {B : Bs} {σ : L2.St} {r : Env} {F H : Hp} (s : StR K B F H σ r) : Post K B σ r F H r F H :=
  ⟨s, Sub.refl _, fun _ _ h _ => h, fun _ h => h, fun _ h => .inl h, fun _ h => h⟩
theorem Post.trans {K : Fg} {B : Bs} {σ : L2.St} {r r1 r2 : Env} {F H F1 H1 F2 H2 : Hp} (a : Post K B σ r F H r1 F1 H1) (b : Post K B σ r1 F1 H1 r2 F2 H2) : Post K B σ r F H r2 F2 H2 where
  st := b.st
  mono := a.mono.trans b.mono
  frame := fun c o h n => b.frame c o (a.frame c o h n) fun q => n (a.own c q)
  dom := fun c h => b.dom c (a.dom c h)
  fr := fun c h => by
    rcases b.fr c h with q | q | q
    · exact a.fr c q
    · exact .inr (.inl (Classical.byContradiction fun n => a.dom c n q))
    · exact .inr (.inr (a.own c q))
  own := fun c h => a.own c (b.own c h)

/-- what an expression gives -/
def TvR (K : Fg) (H0 : Hp) (σ : L2.St) (F H : Hp) : TV → V → Prop
  | .d v, x => Rp K F x v
  | .f v, x => ∃ p o, x = .ref p ∧ H p = some o ∧ F p = none ∧ ObR K F o v ∧ H0 p = none
  | .s i, x => σ[i]? = some (some x)
theorem StR.ownH {K : Fg} {B : Bs} {F H : Hp} {σ : L2.St} {r : Env} (s : StR K B F H σ r) {a : Addr} (h : Own σ r a) : ∃ o, H a = some o ∧ F a = none := by
  obtain ⟨i, d, hr, e⟩ := h
  obtain ⟨b, o, e1, e2, e3, _⟩ := s.obj i d hr
  rw [e] at e1
  cases e1
  exact ⟨o, e2, e3⟩
theorem TvR.keep {K : Fg} {B : Bs} {H0 : Hp} {σ : L2.St} {r r1 : Env} {F H F1 H1 : Hp} {t : TV} {x : V} (h : TvR K H0 σ F H t x) (p : Post K B σ r F H r1 F1 H1) (h0 : ∀ a, Own σ r a → H0 a ≠ none) : TvR K H0 σ F1 H1 t x := by
  cases t with
  | d v => exact Rp.mono p.mono h
  | s i => exact h
  | f v =>
    obtain ⟨q, o, e, e1, e2, e3, e4⟩ := h
    have no : ¬ Own σ r q := fun z => h0 q z e4
    refine ⟨q, o, e, p.frame q o e1 no, ?_, e3.mono p.mono, e4⟩
    cases z : F1 q with
    | none => rfl
    | some u =>
      rcases p.fr q (by rw [z]; simp) with w | w | w
      · exact absurd e2 w
      · rw [e1] at w; cases w
      · exact absurd w no
/-- read now -/
theorem deref_rp {K : Fg} {B : Bs} {H0 : Hp} {σ : L2.St} {r : Env} {F H : Hp} {t : TV} {x : V} {d : D} (s : StR K B F H σ r) (h : TvR K H0 σ F H t x) (e : deref r t = some d) : Rp K H x d := by
  cases t with
  | d v =>
    cases (show some v = some d from e)
    exact Rp.mono s.sub h
  | f v =>
    cases (show some v = some d from e)
    obtain ⟨p, o, e0, e1, _, e3, _⟩ := h
    subst e0
    exact (e3.mono s.sub).rp e1
  | s i =>
    have h : σ[i]? = some (some x) := h
    have ob : ∀ c, (r[i]? = some (.own c) ∨ r[i]? = some (.bor c)) → Rp K H x c := fun c hc => by
      obtain ⟨a, o, e1, e2, _, e4⟩ := s.obj i c hc
      rw [h] at e1
      cases e1
      exact (e4.mono s.sub).rp e2
    unfold deref at e
    simp only at e
    split at e
    · rename_i c hc
      cases e
      obtain ⟨y, e1, e2⟩ := s.val i _ hc
      rw [h] at e1
      cases e1
      exact e2.mono s.sub
    · rename_i c hc
      cases e
      exact ob _ (.inl hc)
    · rename_i c hc
      cases e
      exact ob _ (.inr hc)
    · cases e

theorem upd_sub {F H : Hp} {p : Addr} {o : HO} (s : Sub F H) (e : H p = some o) : Sub (upd F p o) H := fun a u h => by
  by_cases q : a = p
  · subst q
    rw [upd_same] at h
    cases h
    exact e
  · rw [upd_ne q] at h
    exact s a u h
theorem sub_upd {F : Hp} {p : Addr} {o : HO} (e : F p = none) : Sub F (upd F p o) := fun a u h => by
  rw [upd_ne (ne_of_none h e)]
  exact h
theorem upd_some {F : Hp} {p a : Addr} {o : HO} (h : upd F p o a ≠ none) : a = p ∨ F a ≠ none := by
  by_cases q : a = p
  · exact .inl q
  · rw [upd_ne q] at h
    exact .inr h
/-- a new object is given away: it stays as it is from now on -/
theorem freeze {K : Fg} {B : Bs} {H0 : Hp} {σ : L2.St} {r : Env} {F H : Hp} {p : Addr} {o : HO} (s : StR K B F H σ r) (e : H p = some o) (n : F p = none) (no : ¬ Own σ r p) :
    StR K B (upd F p o) H σ r where
  sub := upd_sub s.sub e
  dom := s.dom
  len := s.len
  val := fun i d h => by
    obtain ⟨x, e1, e2⟩ := s.val i d h
    exact ⟨x, e1, e2.mono (sub_upd n)⟩
  obj := fun i d h => by
    obtain ⟨a, u, e1, e2, e3, e4⟩ := s.obj i d h
    refine ⟨a, u, e1, e2, ?_, e4.mono (sub_upd n)⟩
    rw [upd_ne (fun z => no (by subst z; exact ⟨i, d, h, e1⟩))]
    exact e3
  new := s.new
  lnt := s.lnt
  inj := s.inj
theorem getset {α : Type} {l : List α} {i j : Nat} {x y : α} (h : (l.set i x)[j]? = some y) : (j = i ∧ y = x) ∨ (j ≠ i ∧ l[j]? = some y) := by
  rw [List.getElem?_set] at h
  by_cases e : i = j
  · subst e
    rw [if_pos rfl] at h
    split at h
    · cases h; exact .inl ⟨rfl, rfl⟩
    · cases h
  · rw [if_neg e] at h
    exact .inr ⟨fun z => e z.symm, h⟩
/-- an own slot's object is given away -/
theorem freezeS {K : Fg} {B : Bs} {σ : L2.St} {r : Env} {F H : Hp} {i : Nat} {d : D} (s : StR K B F H σ r) (h : r[i]? = some (.own d)) :
    ∃ a o, σ[i]? = some (some (.ref a)) ∧ Rp K (upd F a o) (.ref a) d ∧ Post K B σ r F H (r.set i (.val d)) (upd F a o) H := by
  obtain ⟨a, o, e1, e2, e3, e4⟩ := s.obj i d (.inl h)
  have m := sub_upd (o := o) e3
  have own : ∀ c, Own σ (r.set i (.val d)) c → Own σ r c ∧ c ≠ a := fun c hc => by
    obtain ⟨j, u, hj, ej⟩ := hc
    have hj' : j ≠ i ∧ (r[j]? = some (.own u) ∨ r[j]? = some (.bor u)) := by
      rcases hj with hj | hj
      · rcases getset hj with ⟨_, z⟩ | ⟨z, q⟩
        · cases z
        · exact ⟨z, .inl q⟩
      · rcases getset hj with ⟨_, z⟩ | ⟨z, q⟩
        · cases z
        · exact ⟨z, .inr q⟩
    refine ⟨⟨j, u, hj'.2, ej⟩, fun z => ?_⟩
    subst z
    exact hj'.1 (s.inj j i u d c hj'.2 (.inl h) ej e1)
  refine ⟨a, o, e1, (e4.mono m).rp upd_same, ?_, m, fun _ _ q _ => q, fun _ q => q, fun c q => ?_, fun c q => (own c q).1⟩
  · refine ⟨upd_sub s.sub e2, s.dom, by rw [List.length_set]; exact s.len, fun j u q => ?_, fun j u q => ?_, fun j u c q w => ?_, fun j u c q w => ?_, fun j k u w c q1 q2 w1 w2 => ?_⟩
    · rcases getset q with ⟨z, z2⟩ | ⟨_, q⟩
      · subst z
        cases z2
        exact ⟨_, e1, (e4.mono m).rp upd_same⟩
      · obtain ⟨x, y1, y2⟩ := s.val j u q
        exact ⟨x, y1, y2.mono m⟩
    · have q' : j ≠ i ∧ (r[j]? = some (.own u) ∨ r[j]? = some (.bor u)) := by
        rcases q with q | q
        · rcases getset q with ⟨_, z⟩ | ⟨z, q⟩
          · cases z
          · exact ⟨z, .inl q⟩
        · rcases getset q with ⟨_, z⟩ | ⟨z, q⟩
          · cases z
          · exact ⟨z, .inr q⟩
      obtain ⟨b, v, y1, y2, y3, y4⟩ := s.obj j u q'.2
      refine ⟨b, v, y1, y2, ?_, y4.mono m⟩
      rw [upd_ne (fun z => by subst z; exact q'.1 (s.inj j i u d b q'.2 (.inl h) y1 e1))]
      exact y3
    · rcases getset q with ⟨_, z⟩ | ⟨_, q⟩
      · cases z
      · exact s.new j u c q w
    · rcases getset q with ⟨_, z⟩ | ⟨_, q⟩
      · cases z
      · exact s.lnt j u c q w
    · have f : ∀ {j : Nat} {u : D}, ((r.set i (.val d))[j]? = some (.own u) ∨ (r.set i (.val d))[j]? = some (.bor u)) → (r[j]? = some (.own u) ∨ r[j]? = some (.bor u)) := fun q => by
        rcases q with q | q
        · rcases getset q with ⟨_, z⟩ | ⟨_, q⟩
          · cases z
          · exact .inl q
        · rcases getset q with ⟨_, z⟩ | ⟨_, q⟩
          · cases z
          · exact .inr q
      exact s.inj j k u w c (f q1) (f q2) w1 w2
  · rcases upd_some q with z | z
    · subst z
      exact .inr (.inr ⟨i, d, .inl h, e1⟩)
    · exact .inl z
/-- given away, whatever it is -/
theorem solid_rp {K : Fg} {B : Bs} {H0 : Hp} {σ : L2.St} {r r' : Env} {F H : Hp} {t : TV} {x : V} {d : D} (s : StR K B F H σ r) (h0 : ∀ a, Own σ r a → H0 a ≠ none) (h : TvR K H0 σ F H t x) (e : solid r t = some (d, r')) :
    ∃ F', Rp K F' x d ∧ StR K B F' H σ r' ∧ Sub F F' ∧ (∀ a, F' a ≠ none → F a ≠ none ∨ H0 a = none ∨ Own σ r a) ∧ (∀ a, Own σ r' a → Own σ r a) := by
  cases t with
  | d v =>
    cases (show some (v, r) = some (d, r') from e)
    exact ⟨F, h, s, Sub.refl _, fun _ q => .inl q, fun _ q => q⟩
  | f v =>
    cases (show some (v, r) = some (d, r') from e)
    obtain ⟨p, o, e0, e1, e2, e3, e4⟩ := h
    subst e0
    refine ⟨upd F p o, (e3.mono (sub_upd e2)).rp upd_same, freeze (H0 := H0) s e1 e2 (fun z => h0 p z e4), sub_upd e2, fun a q => ?_, fun _ q => q⟩
    rcases upd_some q with z | z
    · subst z; exact .inr (.inl e4)
    · exact .inl z
  | s i =>
    have h : σ[i]? = some (some x) := h
    unfold solid at e
    simp only at e
    split at e
    · rename_i c hc
      cases e
      obtain ⟨y, e1, e2⟩ := s.val i _ hc
      rw [h] at e1
      cases e1
      exact ⟨F, e2, s, Sub.refl _, fun _ q => .inl q, fun _ q => q⟩
    · rename_i c hc
      cases e
      obtain ⟨a, o, e1, e2, p⟩ := freezeS s hc
      rw [h] at e1
      cases e1
      refine ⟨_, e2, p.st, p.mono, fun c q => ?_, p.own⟩
      rcases upd_some q with z | z
      · subst z
        exact .inr (.inr ⟨i, _, .inl hc, h⟩)
      · exact .inl z
    · cases e
end Ev

end
section
set_option linter.all false
set_option maxHeartbeats 1000000
/-! The evaluator's operators are the machine's. -/
namespace Ev
open PySem PySem.Spec PyProof.Rows L2

/-- what is read: its parts in F, itself in F or an object in H -/
def Rq (K : Fg) (F H : Hp) (x : V) (d : D) : Prop := Rp K F x d ∨ ∃ a o, x = .ref a ∧ H a = some o ∧ ObR K F o d
theorem deref_rq {K : Fg} {B : Bs} {H0 : Hp} {σ : L2.St} {r : Env} {F H : Hp} {t : TV} {x : V} {d : D} (s : StR K B F H σ r) (h : TvR K H0 σ F H t x) (e : deref r t = some d) : Rq K F H x d := by
  cases t with
  | d v =>
    cases (show some v = some d from e)
    exact .inl h
  | f v =>
    cases (show some v = some d from e)
    obtain ⟨p, o, e0, e1, _, e3, _⟩ := h
    exact .inr ⟨p, o, e0, e1, e3⟩
  | s i =>
    have h : σ[i]? = some (some x) := h
    have ob : ∀ c, (r[i]? = some (.own c) ∨ r[i]? = some (.bor c)) → Rq K F H x c := fun c hc => by
      obtain ⟨a, o, e1, e2, _, e4⟩ := s.obj i c hc
      rw [h] at e1
      cases e1
      exact .inr ⟨a, o, rfl, e2, e4⟩
    unfold deref at e
    simp only at e
    split at e
    · rename_i c hc
      cases e
      obtain ⟨y, e1, e2⟩ := s.val i _ hc
      rw [h] at e1
      cases e1
      exact .inl e2
    · rename_i c hc
      cases e
      exact ob _ (.inl hc)
    · rename_i c hc
      cases e
      exact ob _ (.inr hc)
    · cases e
section
variable {K : Fg} {F H : Hp} {x : V}
theorem Rq.rp {d : D} (s : Sub F H) (h : Rq K F H x d) : Rp K H x d := by
  rcases h with h | ⟨a, o, e, e1, e2⟩
  · exact h.mono s
  · subst e
    exact (e2.mono s).rp e1
theorem Rq.int {i : Int} (h : Rq K F H x (.int i)) : x = .int i := by
  rcases h with h | ⟨a, o, e, e1, e2⟩
  · cases h; rfl
  · exact e2.elim
theorem Rq.bl {i : Bool} (h : Rq K F H x (.bool i)) : x = .bl i := by
  rcases h with h | ⟨a, o, e, e1, e2⟩
  · cases h; rfl
  · exact e2.elim
theorem Rq.str {i : Str} (h : Rq K F H x (.str i)) : x = .str i := by
  rcases h with h | ⟨a, o, e, e1, e2⟩
  · cases h; rfl
  · exact e2.elim
theorem Rq.non (h : Rq K F H x .none) : x = .non := by
  rcases h with h | ⟨a, o, e, e1, e2⟩
  · cases h; rfl
  · exact e2.elim
theorem Rq.tup {ds : List D} (h : Rq K F H x (.tuple ds)) : ∃ a xs, x = .ref a ∧ SqT K F a xs ∧ RpL K F xs ds := by
  rcases h with h | ⟨a, o, e, e1, e2⟩
  · cases h with
    | tup h1 h2 => exact ⟨_, _, rfl, h1, h2⟩
  · exact e2.elim
theorem Rq.lst {ds : List D} (s : Sub F H) (h : Rq K F H x (.list ds)) : ∃ a xs, x = .ref a ∧ H a = some (.lst xs) ∧ RpL K F xs ds := by
  rcases h with h | ⟨a, o, e, e1, e2⟩
  · cases h with
    | lst h1 h2 => exact ⟨_, _, rfl, s _ _ h1, h2⟩
  · obtain ⟨xs, e3, e4⟩ := e2
    subst e3
    exact ⟨_, _, e, e1, e4⟩
end

theorem Rq.scr {K : Fg} {F H : Hp} {x : V} {ds : List D} (h : Rq K F H x (.dict [(.none, .list ds)])) : ∃ a xs, x = .ref a ∧ SqL K F a xs ∧ RpL K F xs ds := by
  rcases h with h | ⟨a, o, e, e1, e2⟩
  · cases h with
    | scr h1 h2 => exact ⟨_, _, rfl, h1, h2⟩
    | @dic _ kvs _ h1 h2 =>
      generalize hq : ([(PyData.none, PyData.list ds)] : List (D × D)) = q at h2
      cases h2 with
      | nil => cases hq
      | @cons k v d kvs ps h3 h4 =>
        have h5 : PyData.none = keyD k := by
          injection hq with h6
          exact congrArg Prod.fst h6
        cases k <;> cases h5
  · rcases e2 with ⟨kvs, e3, h2⟩ | ⟨kvs, qs, e0, e3, h2⟩
    · generalize hq : ([(PyData.none, PyData.list ds)] : List (D × D)) = q at h2
      cases h2 with
      | nil => cases hq
      | @cons k v d kvs ps h3 h4 =>
        have h5 : PyData.none = keyD k := by
          injection hq with h6
          exact congrArg Prod.fst h6
        cases k <;> cases h5
    · injection e0 with e0 _
      injection e0 with _ e0
      exact nomatch e0

/-- an operation's result: a value that is there, or a new tuple or list -/
inductive Out (K : Fg) (F H : Hp) : TV → V → Hp → Prop
  | same {z : V} {w : D} : Rp K F z w → Out K F H (.d w) z H
  | tup {p : Addr} {xs : List V} {ds : List D} : H p = none → RpL K F xs ds → Out K F H (.d (.tuple ds)) (.ref p) (upd H p (.tup xs))
  | lst {p : Addr} {xs : List V} {ds : List D} : H p = none → RpL K F xs ds → Out K F H (.f (.list ds)) (.ref p) (upd H p (.lst xs))
theorem laid {K : Fg} {B : Bs} {σ : L2.St} {r : Env} {F H : Hp} {p : Addr} {o : HO} (s : StR K B F H σ r) (n : H p = none) : Post K B σ r F H r F (upd H p o) := by
  have sb : Sub H (upd H p o) := sub_upd n
  have fp : F p = none := by
    cases z : F p with
    | none => rfl
    | some u =>
      rw [s.sub _ _ z] at n
      cases n
  refine ⟨⟨fun a u q => sb a u (s.sub a u q), fun a q => ?_, s.len, s.val, fun i d q => ?_, s.new, s.lnt, s.inj⟩, Sub.refl _, fun a u q _ => sb a u q, fun a q => ?_, fun a q => .inl q, fun _ q => q⟩
  · have := s.dom a q
    cases z : H a with
    | none => exact absurd z this
    | some u => rw [sb a u z]; simp
  · obtain ⟨a, u, e1, e2, e3, e4⟩ := s.obj i d q
    exact ⟨a, u, e1, sb _ _ e2, e3, e4⟩
  · cases z : H a with
    | none => exact absurd z q
    | some u => rw [sb a u z]; simp
theorem Out.post {K : Fg} {B : Bs} {σ : L2.St} {r : Env} {F H H' : Hp} {t : TV} {z : V} (s : StR K B F H σ r) (h : Out K F H t z H') : ∃ F', Post K B σ r F H r F' H' ∧ TvR K H σ F' H' t z := by
  cases h with
  | same h => exact ⟨F, Post.refl s, h⟩
  | @tup p xs ds n rl =>
    have l := laid (o := .tup xs) s n
    have fp : F p = none := by
      cases q : F p with
      | none => rfl
      | some u =>
        rw [s.sub _ _ q] at n
        cases n
    have no : ¬ Own σ r p := fun q => by
      obtain ⟨o, e, _⟩ := s.ownH q
      rw [n] at e
      cases e
    refine ⟨upd F p (.tup xs), ⟨freeze (H0 := H) l.st upd_same fp no, sub_upd fp, l.frame, l.dom, fun a q => ?_, l.own⟩, .tup (SqT.of upd_same) (rl.mono (sub_upd fp))⟩
    rcases upd_some q with q | q
    · subst q; exact .inr (.inl n)
    · exact .inl q
  | @lst p xs ds n rl =>
    have fp : F p = none := by
      cases q : F p with
      | none => rfl
      | some u =>
        rw [s.sub _ _ q] at n
        cases n
    exact ⟨F, laid s n, p, _, rfl, upd_same, fp, ⟨xs, rfl, rl⟩, n⟩

/-! ### data compared -/
mutual
theorem Rp.dp {K : Fg} {H : Hp} : ∀ {v : V} {d : D}, Rp K H v d → d.canLay0 = true → Dp K H v d
  | _, _, .non, _ => .non
  | _, _, .bl b, _ => .bl b
  | _, _, .int i, _ => .int i
  | _, _, .str x, _ => .str x
  | _, _, .lst h r, c => .lst (SqL.of h) (RpL.dp r (by simpa [PyData.canLay0] using c))
  | _, _, .tup h r, c => .tup h (RpL.dp r (by simpa [PyData.canLay0] using c))
  | _, _, .dic h r, c => by simp [PyData.canLay0] at c
  | _, _, .dit h r, c => by simp [PyData.canLay0] at c
  | _, _, .scr h r, c => by simp [PyData.canLay0] at c
theorem RpL.dp {K : Fg} {H : Hp} : ∀ {v : List V} {d : List D}, RpL K H v d → PyData.canLayAll0 d = true → DpAll K H v d
  | _, _, .nil, _ => .nil
  | _, _, .cons h r, c => by
    have c' := c
    simp only [PyData.canLayAll0, Bool.and_eq_true] at c'
    exact .cons (Rp.dp h c'.1) (RpL.dp r c'.2)
end
theorem shaped_dp {K : Fg} {H : Hp} {v : V} {d : D} (h : Rp K H v d) (c : SeqAt.shaped d = true) : Dp K H v d := h.dp (SeqAt.canLay_of_shaped c)

theorem scal_eq {K : Fg} {F : Hp} {x y : V} {a b : D} (hx : Rp K F x a) (hy : Rp K F y b) (h : scal a b = true) : L2.scal x y = true ∧ decide (x = y) = PyData.eqv a b := by
  cases hx <;> cases hy <;> first
    | (simp [scal] at h; done)
    | (refine ⟨rfl, ?_⟩; simp [PyData.eqv]; try rfl)
    | skip
  all_goals first
    | done
    | (simp only [scal] at h; done)
    | skip
section
variable {X : Cx}
def rEqE (K : Fg) : R2 := fun x y H Q => ∃ a b, Rp K H x a ∧ Rp K H y b ∧ eqOk a b = true ∧ Q (.bl (PyData.eqv a b)) H
def rNeE (K : Fg) : R2 := fun x y H Q => ∃ a b, Rp K H x a ∧ Rp K H y b ∧ eqOk a b = true ∧ Q (.bl (!PyData.eqv a b)) H
theorem op_eqE (hu : X.A.units + 64 < cLine) : OpR X (compareOp .Eq) (rEqE X.K) := by
  intro pins s σ H x y v u Q I rx ry h
  obtain ⟨a, b, ha, hb, e, q⟩ := h
  unfold eqOk at e
  rw [Bool.or_eq_true] at e
  rcases e with e | e
  · obtain ⟨e1, e2⟩ := scal_eq ha hb e
    exact op_eq pins s σ H x y v u Q I rx ry ⟨e1, by rw [e2]; exact q⟩
  · rw [Bool.and_eq_true] at e
    exact op_eqD hu pins s σ H x y v u Q I rx ry ⟨a, b, shaped_dp ha e.1, shaped_dp hb e.2, e.1, e.2, q⟩
theorem op_neE (hu : X.A.units + 64 < cLine) : OpR X (compareOp .NotEq) (rNeE X.K) := by
  intro pins s σ H x y v u Q I rx ry h
  obtain ⟨a, b, ha, hb, e, q⟩ := h
  unfold eqOk at e
  rw [Bool.or_eq_true] at e
  rcases e with e | e
  · obtain ⟨e1, e2⟩ := scal_eq ha hb e
    exact op_ne pins s σ H x y v u Q I rx ry ⟨e1, by rw [e2]; exact q⟩
  · rw [Bool.and_eq_true] at e
    exact op_neD hu pins s σ H x y v u Q I rx ry ⟨a, b, shaped_dp ha e.1, shaped_dp hb e.2, e.1, e.2, q⟩
end
end Ev

end
section
set_option linter.all false
set_option maxHeartbeats 2000000
namespace Ev
open PySem PySem.Spec PyProof.Rows L2

def opB : Bo → Operator
  | .add => .Add
  | .sub => .Sub
  | .mul => .Mult
  | .div => .FloorDiv
  | .mod => .Mod
  | .pow => .Pow
def rBo (K : Fg) (o : Bo) : R2 := fun x y H Q => ∃ F u v t, Sub F H ∧ Rq K F H x u ∧ Rq K F H y v ∧ bop o u v = some t ∧ ∀ z H', Out K F H t z H' → Q z H'
theorem szl : SZ = sizeLine := by rw [sizeLine_eq]; rfl
theorem mulOk_c {i j : Int} (h : mulOk i j = true) : CMul i j := by
  unfold mulOk P64 at h
  rw [Bool.or_eq_true, Bool.and_eq_true, Bool.and_eq_true] at h
  simp only [decide_eq_true_eq] at h
  unfold CMul
  have e : (2 : Int) ^ 64 = 18446744073709551616 := by decide
  rw [e]
  omega
section
variable {X : Cx}
theorem or_bop (o : Bo) : OpR X (binaryOp (opB o)) (rBo X.K o) := by
  intro pins s σ H x y v u Q I rx ry h
  obtain ⟨F, a, b, t, sb, ha, hb, e, q⟩ := h
  unfold bop at e
  split at e
  · cases e
    exact op_add pins s σ H x y v u Q I rx ry ⟨_, _, ha.int, hb.int, q _ _ (.same (.int _))⟩
  · split at e
    · cases e
      rename_i w
      exact op_add_str pins s σ H x y v u Q I rx ry ⟨_, _, ha.str, hb.str, szl ▸ w, q _ _ (.same (.str _))⟩
    · cases e
  · split at e
    · cases e
      rename_i w
      obtain ⟨p, xs, rfl, h1, r1⟩ := ha.tup
      obtain ⟨p2, ys, rfl, h2, r2⟩ := hb.tup
      refine op_catA pins s σ H _ _ v u Q I rx ry ⟨p, p2, xs, ys, rfl, rfl, sb.sqt h1, sb.sqt h2, by rw [r1.length, r2.length]; exact szl ▸ w, fun z => ?_, fun _ z => ?_, fun _ _ c hc => ?_⟩
      · subst z
        cases r1
        exact q _ _ (.same (.tup h2 r2))
      · subst z
        cases r2
        rw [List.append_nil] at q
        exact q _ _ (.same (.tup h1 r1))
      · exact q _ _ (.tup hc (r1.append r2))
    · cases e
  · split at e
    · cases e
      rename_i w
      obtain ⟨p, xs, rfl, h1, r1⟩ := ha.lst sb
      obtain ⟨p2, ys, rfl, h2, r2⟩ := hb.lst sb
      refine op_cat pins s σ H _ _ v u Q I rx ry ⟨p, p2, xs, ys, rfl, rfl, h1, h2, by rw [r1.length, r2.length]; exact szl ▸ w, fun c hc => ?_⟩
      exact q _ _ (.lst hc (r1.append r2))
    · cases e
  · cases e
    exact op_sub pins s σ H x y v u Q I rx ry ⟨_, _, ha.int, hb.int, q _ _ (.same (.int _))⟩
  · split at e
    · cases e
      rename_i w
      exact op_mul pins s σ H x y v u Q I rx ry ⟨_, _, ha.int, hb.int, mulOk_c w, q _ _ (.same (.int _))⟩
    · cases e
  · split at e
    · cases e
      rename_i w
      obtain ⟨p, xs, rfl, h1, r1⟩ := ha.tup
      refine op_repT pins s σ H _ y v u Q I rx ry ⟨p, _, xs, rfl, hb.int, sb.sqt h1, fun z => ?_, w.2.2.1, w.2.1, by rw [r1.length]; exact w.1, fun c hc => ?_⟩
      · subst z
        cases r1
        exact Bool.noConfusion w.2.2.2
      · exact q _ _ (.tup hc (r1.rep _))
    · cases e
  · split at e
    · cases e
      rename_i w
      exact op_fdiv pins s σ H x y v u Q I rx ry ⟨_, _, ha.int, hb.int, w, q _ _ (.same (.int _))⟩
    · cases e
  · split at e
    · cases e
      rename_i w
      exact op_mod pins s σ H x y v u Q I rx ry ⟨_, _, ha.int, hb.int, w, q _ _ (.same (.int _))⟩
    · cases e
  · split at e
    · cases e
      rename_i w
      refine op_pow pins s σ H x y v u Q I rx ry ⟨_, _, ha.int, hb.int, ⟨w.1, w.2.1, ?_⟩, q _ _ (.same (.int _))⟩
      have e2 : (2 : Nat) ^ 64 = 18446744073709551616 := by decide
      rw [e2]
      exact w.2.2
    · cases e
  · cases e

/-! ### comparisons -/
def opC : Co → CmpOp
  | .eq => .Eq
  | .ne => .NotEq
  | .lt => .Lt
  | .le => .LtE
  | .gt => .Gt
  | .ge => .GtE
  | .is => .Is
  | .isNot => .IsNot
  | .inn => .In
  | .notIn => .NotIn
def rCo (K : Fg) (o : Co) : R2 := fun x y H Q => ∃ F u v t, Sub F H ∧ Rq K F H x u ∧ Rq K F H y v ∧ cop o u v = some t ∧ Q (.bl t) H
theorem isOf_or {F H : Hp} {x y : V} {a b : D} {t : Bool} (sb : Sub F H) (ha : Rq X.K F H x a) (hb : Rq X.K F H y b) (e : isOf a b = some t) : (y = .non ∧ t = decide (x = .non)) ∨ ∃ c d, x = .bl c ∧ y = .bl d ∧ t = decide (c = d) := by
  unfold isOf at e
  split at e
  · cases e
    refine .inl ⟨hb.non, ?_⟩
    have h := ha.rp sb
    cases h <;> simp
  · cases e
    exact .inr ⟨_, _, ha.bl, hb.bl, Bool.beq_eq_decide_eq _ _⟩
  · cases e
theorem flat_V {K : Fg} {F : Hp} {x : V} {d : D} (h : Rp K F x d) (f : flat d = true) : flatV x = true := by
  cases h <;> first | rfl | (simp [flat] at f)
theorem flat_eqV {K : Fg} {F : Hp} {x y : V} {a b : D} (hx : Rp K F x a) (hy : Rp K F y b) (fa : flat a = true) (fb : flat b = true) : eqV x y = PyData.eqv a b := by
  cases hx <;> cases hy <;> first
    | rfl
    | (simp [flat] at fa; done)
    | (simp [flat] at fb; done)
    | (simp [eqV, PyData.eqv])
theorem flat_all {K : Fg} {F : Hp} : ∀ {xs : List V} {ds : List D}, RpL K F xs ds → ds.all flat = true → xs.all flatV = true
  | _, _, .nil, _ => rfl
  | _, _, .cons h r, f => by
    rw [List.all_cons, Bool.and_eq_true] at f ⊢
    exact ⟨flat_V h f.1, flat_all r f.2⟩
theorem flat_any {K : Fg} {F : Hp} {x : V} {a : D} (hx : Rp K F x a) (fa : flat a = true) : ∀ {xs : List V} {ds : List D}, RpL K F xs ds → ds.all flat = true → inV x xs = ds.any fun y => PyData.eqv y a
  | _, _, .nil, _ => rfl
  | _, _, .cons h r, f => by
    rw [List.all_cons, Bool.and_eq_true] at f
    show (eqV _ x || inV x _) = (PyData.eqv _ a || _)
    rw [flat_eqV h hx f.1 fa, flat_any hx fa r f.2]
theorem inOf_op {neg : Bool} {pins : List (Addr × Obj)} {s : Shared} {σ : L2.St} {F H : Hp} {x y : V} {v u : Value} {Q : VK} (hu : X.A.units + 65 < cLine) (I : Inv X pins σ H s) (rx : RelV x v) (ry : RelV y u) {a b : D} {t : Bool} (sb : Sub F H) (ha : Rq X.K F H x a)
    (hb : Rq X.K F H y b) (e : inOf a b = some t) (q : Q (.bl (if neg then !t else t)) H) : wpAny (model X.prog X.w) X.A (compareOp (if neg then .NotIn else .In) v u) (EP X pins σ Q) X.xe s := by
  have hx := ha.rp sb
  unfold inOf at e
  split at e
  · split at e
    · split at e
      · cases e
        rename_i c hc
        have ex : ∀ x' : Str, x'.cps.toList = [c] → x' = ⟨#[c]⟩ := fun x' hc => by
          obtain ⟨cs⟩ := x'
          simp only at hc
          have : cs = #[c] := by
            rw [← Array.toArray_toList (xs := cs), hc]
          rw [this]
        have h1 := ha.str
        rw [ex _ hc] at h1
        cases neg with
        | true => exact op_notIn_sign pins s σ H x y v u Q I rx ry ⟨c, _, h1, hb.str, q⟩
        | false => exact op_in_sign pins s σ H x y v u Q I rx ry ⟨c, _, h1, hb.str, q⟩
      · cases e
    · cases e
  · obtain ⟨p, xs, rfl, h1, r1⟩ := hb.lst sb
    split at e
    · rename_i w
      cases e
      rw [Bool.and_eq_true] at w
      have hin := flat_any hx w.1 (r1.mono sb) w.2
      cases neg with
      | true => exact op_notIn_seq pins s σ H x _ v u Q I rx ry ⟨p, xs, rfl, .inl (SqL.of h1), flat_V hx w.1, flat_all r1 w.2, by rw [hin]; exact q⟩
      | false => exact op_in_seq pins s σ H x _ v u Q I rx ry ⟨p, xs, rfl, .inl (SqL.of h1), flat_V hx w.1, flat_all r1 w.2, by rw [hin]; exact q⟩
    · split at e
      · rename_i w
        cases e
        rw [Bool.and_eq_true] at w
        have hy : Rp X.K H (.ref p) (.list _) := .lst h1 (r1.mono sb)
        cases neg with
        | true => exact op_notInD hu pins s σ H x _ v u Q I rx ry ⟨a, _, shaped_dp hx w.1, shaped_dp hy w.2, w.1, w.2, q⟩
        | false => exact op_inD hu pins s σ H x _ v u Q I rx ry ⟨a, _, shaped_dp hx w.1, shaped_dp hy w.2, w.1, w.2, q⟩
      · cases e
  · obtain ⟨p, xs, rfl, h1, r1⟩ := hb.tup
    split at e
    · rename_i w
      cases e
      rw [Bool.and_eq_true] at w
      have hin := flat_any hx w.1 (r1.mono sb) w.2
      cases neg with
      | true => exact op_notIn_seq pins s σ H x _ v u Q I rx ry ⟨p, xs, rfl, .inr (sb.sqt h1), flat_V hx w.1, flat_all r1 w.2, by rw [hin]; exact q⟩
      | false => exact op_in_seq pins s σ H x _ v u Q I rx ry ⟨p, xs, rfl, .inr (sb.sqt h1), flat_V hx w.1, flat_all r1 w.2, by rw [hin]; exact q⟩
    · cases e
  · cases e
theorem or_cop (hu : X.A.units + 65 < cLine) (o : Co) : OpR X (compareOp (opC o)) (rCo X.K o) := by
  intro pins s σ H x y v u Q I rx ry h
  obtain ⟨F, a, b, t, sb, ha, hb, e, q⟩ := h
  unfold cop at e
  split at e
  · split at e
    · cases e
      rename_i w
      exact op_eqE (by omega) pins s σ H x y v u Q I rx ry ⟨a, b, ha.rp sb, hb.rp sb, w, q⟩
    · cases e
  · split at e
    · cases e
      rename_i w
      exact op_neE (by omega) pins s σ H x y v u Q I rx ry ⟨a, b, ha.rp sb, hb.rp sb, w, q⟩
    · cases e
  · cases e; exact op_lt pins s σ H x y v u Q I rx ry ⟨_, _, ha.int, hb.int, q⟩
  · cases e; exact op_le pins s σ H x y v u Q I rx ry ⟨_, _, ha.int, hb.int, q⟩
  · cases e; exact op_gt pins s σ H x y v u Q I rx ry ⟨_, _, ha.int, hb.int, q⟩
  · cases e; exact op_ge pins s σ H x y v u Q I rx ry ⟨_, _, ha.int, hb.int, q⟩
  · cases e; exact op_lt_str pins s σ H x y v u Q I rx ry ⟨_, _, ha.str, hb.str, q⟩
  · cases e; exact op_le_str pins s σ H x y v u Q I rx ry ⟨_, _, ha.str, hb.str, q⟩
  · cases e; exact op_gt_str pins s σ H x y v u Q I rx ry ⟨_, _, ha.str, hb.str, q⟩
  · cases e; exact op_ge_str pins s σ H x y v u Q I rx ry ⟨_, _, ha.str, hb.str, q⟩
  · rcases isOf_or sb ha hb e with ⟨e1, e2⟩ | ⟨c, d, e1, e2, e3⟩
    · exact op_isN pins s σ H x y v u Q I rx ry ⟨e1, by rw [← e2]; exact q⟩
    · exact op_is_bl pins s σ H x y v u Q I rx ry ⟨c, d, e1, e2, by rw [← e3]; exact q⟩
  · rw [Option.map_eq_some_iff] at e
    obtain ⟨k, e, ek⟩ := e
    subst ek
    rcases isOf_or sb ha hb e with ⟨e1, e2⟩ | ⟨c, d, e1, e2, e3⟩
    · exact op_notN pins s σ H x y v u Q I rx ry ⟨e1, by rw [← e2]; exact q⟩
    · exact op_isnot_bl pins s σ H x y v u Q I rx ry ⟨c, d, e1, e2, by rw [← e3]; exact q⟩
  · exact inOf_op (neg := false) hu I rx ry sb ha hb e q
  · rw [Option.map_eq_some_iff] at e
    obtain ⟨k, e, ek⟩ := e
    subst ek
    exact inOf_op (neg := true) hu I rx ry sb ha hb e q
  · cases e
end
end Ev

end
section
set_option linter.all false
set_option maxHeartbeats 2000000
namespace Ev
open PySem PySem.Spec PyProof.Rows L2

theorem ixN_eq (n : Nat) (i : Int) : Ev.ixN n i = L2.ixN n i := rfl
theorem sIx_eq (n d : Nat) (o : Option Int) : Ev.sIx n d o = HT.sIx n d o := by cases o <;> rfl
theorem cut_eq (xs : List V) (lo hi : Option Int) : cut xs lo hi = cutV xs lo hi := by
  unfold cut cutV
  rw [sIx_eq, sIx_eq]
theorem atI_rp {K : Fg} {F : Hp} {xs : List V} {ds : List D} (r : RpL K F xs ds) {i : Int} {d : D} (e : Ev.atI ds i = some d) : ∃ y, L2.atI xs i = some y ∧ Rp K F y d := by
  unfold Ev.atI at e
  rw [Option.bind_eq_some_iff] at e
  obtain ⟨j, e1, e2⟩ := e
  obtain ⟨y, h1, h2⟩ := r.get j d e2
  refine ⟨y, ?_, h2⟩
  unfold L2.atI
  rw [Option.bind_eq_some_iff]
  exact ⟨j, by rw [r.length]; exact e1, h1⟩
theorem RpL.cut {K : Fg} {F : Hp} {xs : List V} {ds : List D} (r : RpL K F xs ds) (lo hi : Option Int) : RpL K F (cutV xs lo hi) (Ev.cut ds lo hi) := by
  rw [← cut_eq]
  unfold Ev.cut
  rw [r.length]
  exact (r.drop _).take _
def rIdx (K : Fg) : R2 := fun x y H Q => ∃ F u v t, Sub F H ∧ Rq K F H x u ∧ Rq K F H y v ∧ idx u v = some t ∧ ∀ z, Rp K F z t → Q z H
section
variable {X : Cx}
theorem ix_idx : IxR X (rIdx X.K) := by
  intro value slice pins s σ H x y v u Q I rx ry h hs
  obtain ⟨F, a, b, t, sb, ha, hb, e, q⟩ := h
  unfold idx at e
  split at e
  · obtain ⟨p, xs, rfl, h1, r1⟩ := ha.lst sb
    obtain ⟨y1, e1, e2⟩ := atI_rp r1 e
    exact ix_list value slice pins s σ H _ y v u Q I rx ry ⟨p, xs, _, y1, rfl, hb.int, SqL.of h1, e1, q _ e2⟩ hs
  · obtain ⟨p, xs, rfl, h1, r1⟩ := ha.tup
    obtain ⟨y1, e1, e2⟩ := atI_rp r1 e
    exact ix_tup value slice pins s σ H _ y v u Q I rx ry ⟨p, xs, _, y1, rfl, hb.int, sb.sqt h1, e1, q _ e2⟩ hs
  · split at e
    · rename_i w
      rw [Option.map_eq_some_iff] at e
      obtain ⟨c, e1, e2⟩ := e
      subst e2
      exact ix_str value slice pins s σ H _ y v u Q I rx ry ⟨_, _, c, ha.str, hb.int, szl ▸ w, e1, q _ (.str _)⟩ hs
    · cases e
  · cases e
def rSlc (K : Fg) : V → Option Int → Option Int → Hp → VK → Prop := fun x lo hi H Q => ∃ F u t, Sub F H ∧ Rq K F H x u ∧ slice lo hi u = some t ∧ ∀ z H', Out K F H t z H' → Q z H'
theorem sl_slc : SlR X (rSlc X.K) := by
  intro pins s σ H x v vl vu lo hi sl Q I rx hs pl pu h
  obtain ⟨F, a, t, sb, ha, e, q⟩ := h
  unfold slice at e
  split at e
  · cases e
    obtain ⟨p, xs, rfl, h1, r1⟩ := ha.lst sb
    exact sl_list pins s σ H _ v vl vu lo hi sl Q I rx hs pl pu ⟨p, xs, rfl, SqL.of h1, fun c hc => q _ _ (.lst hc (r1.cut lo hi))⟩
  · cases e
    obtain ⟨p, xs, rfl, h1, r1⟩ := ha.tup
    refine sl_tupA pins s σ H _ v vl vu lo hi sl Q I rx hs pl pu ⟨p, xs, rfl, sb.sqt h1, fun z => ?_, fun _ c hc => q _ _ (.tup hc (r1.cut lo hi))⟩
    refine q _ _ (.same (.tup h1 ?_))
    have e2 : cutV xs lo hi = xs := by
      unfold cutV
      rw [z.1, z.2, List.drop_zero, Nat.sub_zero, List.take_length]
    have r2 := r1.cut lo hi
    rw [e2] at r2
    exact r2
  · split at e
    · rename_i w
      cases e
      refine sl_str pins s σ H _ v vl vu lo hi sl Q I rx hs pl pu ⟨_, ha.str, szl ▸ w, ?_⟩
      refine q _ _ (.same ?_)
      have e3 : ∀ z : Str, cutS z lo hi = ⟨(cut z.cps.toList lo hi).toArray⟩ := fun z => by
        unfold cutS cut
        rw [sIx_eq, sIx_eq]
        rfl
      rw [e3]
      exact .str _
    · cases e
  · cases e
def rNeg : V → Hp → VK → Prop := rU fun i => .int (-i)
/-- truth -/
theorem truth_tru {K : Fg} {F H : Hp} {x : V} {d : D} {b : Bool} (sb : Sub F H) (h : Rq K F H x d) (e : truth d = some b) : TruV K x H b := by
  unfold truth at e
  split at e
  · cases e; cases h.non; rfl
  · cases e; cases h.bl; rfl
  · cases e; cases h.int; rfl
  · split at e
    · rename_i w
      cases e; cases h.str
      exact ⟨szl ▸ w, rfl⟩
    · cases e
  · cases e
    obtain ⟨p, xs, rfl, h1, r1⟩ := h.lst sb
    exact .inl ⟨xs, SqL.of h1, by rw [r1.nil_iff]⟩
  · cases e
    obtain ⟨p, xs, rfl, h1, r1⟩ := h.tup
    exact .inr (.inl ⟨xs, sb.sqt h1, by rw [r1.nil_iff]⟩)
  · cases e

/-! ### isinstance -/
def tyN : Ty → String
  | .int => "int"
  | .bool => "bool"
  | .str => "str"
  | .tuple => "tuple"
  | .list => "list"
  | .dict => "dict"
def tyD : D → String
  | .none => "NoneType"
  | .bool _ => "bool"
  | .int _ => "int"
  | .str _ => "str"
  | .tuple _ => "tuple"
  | .list _ => "list"
  | .dict _ => "dict"
theorem kit_ty (K : Fg) (d : D) (t : Ty) (h : notDict d = true) : PySem.W.kitOne K (.type (tyD d)) (.type (tyN t)) = some (isTy t d) := by
  cases d <;> first | (simp [notDict] at h; done) | (cases t <;> rfl)
theorem tyx {K : Fg} {F H : Hp} {x : V} {d : D} (sb : Sub F H) (h : Rq K F H x d) (hd : notDict d = true) : TyX K H x (.type (tyD d)) := by
  cases d with
  | none => cases h.non; exact .base .non
  | bool b => cases h.bl; exact .base (.bl _)
  | int i => cases h.int; exact .base (.int _)
  | str i => cases h.str; exact .base (.str _)
  | list ds =>
    obtain ⟨p, xs, rfl, h1, r1⟩ := h.lst sb
    exact .base (.lst h1)
  | tuple ds =>
    obtain ⟨p, xs, rfl, h1, r1⟩ := h.tup
    rcases sb.sqt h1 with (h1 | ⟨o, h1⟩) | ⟨o, its, n, h1, h2, _⟩
    · exact .base (.tup h1)
    · exact .fTuple h1
    · exact .kTuple h1 h2
  | dict ps => simp [notDict] at hd
end
end Ev

end
section
set_option linter.all false
set_option maxHeartbeats 2000000
namespace Ev
open PySem PySem.Spec PyProof.Rows L2

theorem intsL_V {K : Fg} {F : Hp} : ∀ {xs : List V} {ds : List D} {ns : List Int}, RpL K F xs ds → intsL ds = some ns → xs = ns.map V.int
  | _, _, _, .nil, e => by cases e; rfl
  | _, _, _, .cons h r, e => by
    rename_i d ds'
    unfold intsL at e
    cases d <;> simp only [reduceCtorEq] at e
    rw [Option.map_eq_some_iff] at e
    obtain ⟨ms, e1, e2⟩ := e
    subst e2
    cases h
    rw [intsL_V r e1]
    rfl
theorem boolsL_V {K : Fg} {F : Hp} : ∀ {xs : List V} {ds : List D} {ns : List Bool}, RpL K F xs ds → boolsL ds = some ns → xs = ns.map V.bl
  | _, _, _, .nil, e => by cases e; rfl
  | _, _, _, .cons h r, e => by
    rename_i d ds'
    unfold boolsL at e
    cases d <;> simp only [reduceCtorEq] at e
    rw [Option.map_eq_some_iff] at e
    obtain ⟨ms, e1, e2⟩ := e
    subst e2
    cases h
    rw [boolsL_V r e1]
    rfl
theorem maxL_spec : ∀ (r : List Int) (x : Int), (maxL x r = x ∨ maxL x r ∈ r) ∧ x ≤ maxL x r ∧ ∀ y ∈ r, y ≤ maxL x r
  | [], x => ⟨.inl rfl, Int.le_refl _, fun _ h => nomatch h⟩
  | y :: r, x => by
    unfold maxL
    have ih := maxL_spec r (if x < y then y else x)
    obtain ⟨h1, h2, h3⟩ := ih
    refine ⟨?_, ?_, ?_⟩
    · rcases h1 with h1 | h1
      · by_cases q : x < y
        · rw [if_pos q] at h1 ⊢; right; rw [h1]; exact List.mem_cons_self
        · rw [if_neg q] at h1 ⊢; left; exact h1
      · right; exact List.mem_cons_of_mem _ h1
    · by_cases q : x < y
      · rw [if_pos q] at h2 ⊢; omega
      · rw [if_neg q] at h2 ⊢; exact h2
    · intro z hz
      rcases List.mem_cons.mp hz with hz | hz
      · subst hz
        by_cases q : x < z
        · rw [if_pos q] at h2 ⊢; exact h2
        · rw [if_neg q] at h2 ⊢; omega
      · exact h3 z hz
theorem minL_spec : ∀ (r : List Int) (x : Int), (minL x r = x ∨ minL x r ∈ r) ∧ minL x r ≤ x ∧ ∀ y ∈ r, minL x r ≤ y
  | [], x => ⟨.inl rfl, Int.le_refl _, fun _ h => nomatch h⟩
  | y :: r, x => by
    unfold minL
    have ih := minL_spec r (if y < x then y else x)
    obtain ⟨h1, h2, h3⟩ := ih
    refine ⟨?_, ?_, ?_⟩
    · rcases h1 with h1 | h1
      · by_cases q : y < x
        · rw [if_pos q] at h1 ⊢; right; rw [h1]; exact List.mem_cons_self
        · rw [if_neg q] at h1 ⊢; left; exact h1
      · right; exact List.mem_cons_of_mem _ h1
    · by_cases q : y < x
      · rw [if_pos q] at h2 ⊢; omega
      · rw [if_neg q] at h2 ⊢; exact h2
    · intro z hz
      rcases List.mem_cons.mp hz with hz | hz
      · subst hz
        by_cases q : z < x
        · rw [if_pos q] at h2 ⊢; exact h2
        · rw [if_neg q] at h2 ⊢; omega
      · exact h3 z hz
def b1V : B1 → Value
  | .abs => .builtin "abs"
  | .int => .type "int"
  | .len => .builtin "len"
  | .list => .type "list"
  | .tuple => .type "tuple"
  | .sum => .builtin "sum"
  | .all => .builtin "all"
  | .any => .builtin "any"
  | .max => .builtin "max"
  | .min => .builtin "min"
  | .sorted => .builtin "sorted"
  | .str => .type "str"
  | .repr => .builtin "repr"
def rB1 (K : Fg) (b : B1) : List V → Hp → VK → Prop := fun xs H Q => ∃ F x u t, xs = [x] ∧ Sub F H ∧ Rq K F H x u ∧ b1 b u = some t ∧ ∀ z H', Out K F H t z H' → Q z H'
def b2V : B2 → Value
  | .max => .builtin "max"
  | .min => .builtin "min"
def rB2 (K : Fg) (b : B2) : List V → Hp → VK → Prop := fun xs H Q => ∃ F x y u v t, xs = [x, y] ∧ Sub F H ∧ Rq K F H x u ∧ Rq K F H y v ∧ b2 b u v = some t ∧ ∀ z, Rp K F z t → Q z H
section
variable {X : Cx}
theorem call_repr_bool : CallR X (.builtin "repr") (fun xs H Q => ∃ b : Bool, xs = [.bl b] ∧ Q (.str (if b then "True" else "False")) H) := by
  intro pins s σ H xs us Q I r h
  obtain ⟨b, rfl, q⟩ := h
  obtain ⟨u, rfl, rfl⟩ := vals1 r
  exact PySem.P.repr_of_bool ⟨.str _, H, I.tok _, ⟨_, rfl⟩, q⟩
theorem cr_b1 (hc : X.calm = true) (b : B1) : CallR X (b1V b) (rB1 X.K b) := by
  intro pins s σ H xs us Q I r h
  obtain ⟨F, x, u, t, rfl, sb, ha, e, q⟩ := h
  unfold b1 at e
  split at e
  · cases e
    exact call_abs pins s σ H _ us Q I r ⟨_, by rw [ha.int], q _ _ (.same (.int _))⟩
  · cases e
    exact call_int1 pins s σ H _ us Q I r (.inl ⟨_, by rw [ha.int], q _ _ (.same (.int _))⟩)
  · split at e
    · cases e
      rename_i w
      exact call_len pins s σ H _ us Q I r ⟨x, _, rfl, by rw [ha.str]; exact ⟨szl ▸ w, rfl⟩, q _ _ (.same (.int _))⟩
    · cases e
  · cases e
    obtain ⟨p, ys, rfl, h1, r1⟩ := ha.lst sb
    exact call_len pins s σ H _ us Q I r ⟨_, _, rfl, .inl ⟨ys, SqL.of h1, rfl⟩, by rw [r1.length]; exact q _ _ (.same (.int _))⟩
  · cases e
    obtain ⟨p, ys, rfl, h1, r1⟩ := ha.tup
    exact call_len pins s σ H _ us Q I r ⟨_, _, rfl, .inr ⟨ys, sb.sqt h1, rfl⟩, by rw [r1.length]; exact q _ _ (.same (.int _))⟩
  · cases e
    obtain ⟨p, ys, rfl, h1, r1⟩ := ha.lst sb
    exact call_list_of pins s σ H _ us Q I r ⟨p, ys, rfl, .inl (SqL.of h1), fun c hc => q _ _ (.lst hc r1)⟩
  · cases e
    obtain ⟨p, ys, rfl, h1, r1⟩ := ha.tup
    exact call_list_of pins s σ H _ us Q I r ⟨p, ys, rfl, .inr (sb.sqt h1), fun c hc => q _ _ (.lst hc r1)⟩
  · cases e
    obtain ⟨p, ys, rfl, h1, r1⟩ := ha.scr
    exact call_list_of pins s σ H _ us Q I r ⟨p, ys, rfl, .inl (sb.sql h1), fun c hc => q _ _ (.lst hc r1)⟩
  · cases e
    obtain ⟨p, ys, rfl, h1, r1⟩ := ha.lst sb
    exact call_tuple_of pins s σ H _ us Q I r ⟨p, ys, rfl, .inl ⟨SqL.of h1, fun c hc => q _ _ (.tup hc r1)⟩⟩
  · cases e
    obtain ⟨p, ys, rfl, h1, r1⟩ := ha.tup
    exact call_tuple_of pins s σ H _ us Q I r ⟨p, ys, rfl, .inr ⟨sb.sqt h1, q _ _ (.same (.tup h1 r1))⟩⟩
  · obtain ⟨p, ys, rfl, h1, r1⟩ := ha.lst sb
    rw [Option.map_eq_some_iff] at e
    obtain ⟨ns, e1, e2⟩ := e
    subst e2
    have ey := intsL_V r1 e1
    subst ey
    exact cr_sum hc pins s σ H _ us Q I r ⟨p, ns, rfl, SqL.of h1, q _ _ (.same (.int _))⟩
  · obtain ⟨p, ys, rfl, h1, r1⟩ := ha.lst sb
    rw [Option.map_eq_some_iff] at e
    obtain ⟨ns, e1, e2⟩ := e
    subst e2
    have ey := boolsL_V r1 e1
    subst ey
    exact cr_all hc pins s σ H _ us Q I r ⟨p, ns, rfl, SqL.of h1, q _ _ (.same (.bl _))⟩
  · obtain ⟨p, ys, rfl, h1, r1⟩ := ha.lst sb
    rw [Option.map_eq_some_iff] at e
    obtain ⟨ns, e1, e2⟩ := e
    subst e2
    have ey := boolsL_V r1 e1
    subst ey
    exact cr_any hc pins s σ H _ us Q I r ⟨p, ns, rfl, SqL.of h1, q _ _ (.same (.bl _))⟩
  · obtain ⟨p, ys, rfl, h1, r1⟩ := ha.lst sb
    split at e
    · rename_i x r' e1
      cases e
      have ey := intsL_V r1 e1
      subst ey
      refine cr_max hc pins s σ H _ us Q I r ⟨p, _, rfl, SqL.of h1, by simp, fun m hm hall => ?_⟩
      obtain ⟨k1, k2, k3⟩ := maxL_spec r' x
      have em : m = maxL x r' := by
        apply Int.le_antisymm
        · rcases List.mem_cons.mp hm with z | z
          · rw [z]; exact k2
          · exact k3 m z
        · rcases k1 with z | z
          · rw [z]; exact hall x List.mem_cons_self
          · exact hall _ (List.mem_cons_of_mem _ z)
      rw [em]
      exact q _ _ (.same (.int _))
    · cases e
  · obtain ⟨p, ys, rfl, h1, r1⟩ := ha.lst sb
    split at e
    · rename_i x r' e1
      cases e
      have ey := intsL_V r1 e1
      subst ey
      refine cr_min hc pins s σ H _ us Q I r ⟨p, _, rfl, SqL.of h1, by simp, fun m hm hall => ?_⟩
      obtain ⟨k1, k2, k3⟩ := minL_spec r' x
      have em : m = minL x r' := by
        apply Int.le_antisymm
        · rcases k1 with z | z
          · rw [z]; exact hall x List.mem_cons_self
          · exact hall _ (List.mem_cons_of_mem _ z)
        · rcases List.mem_cons.mp hm with z | z
          · rw [z]; exact k2
          · exact k3 m z
      rw [em]
      exact q _ _ (.same (.int _))
    · cases e
  · split at e
    · cases e
      rename_i w
      exact call_str_int pins s σ H _ us Q I r ⟨_, by rw [ha.int], w, q _ _ (.same (.str _))⟩
    · cases e
  · cases e
    exact call_repr_bool pins s σ H _ us Q I r ⟨_, by rw [ha.bl], q _ _ (.same (.str _))⟩
  · split at e
    · cases e
      rename_i w
      exact SkE.call_repr_int pins s σ H _ us Q I r ⟨_, by rw [ha.int], w, q _ _ (.same (.str _))⟩
    · cases e
  · cases e
theorem cr_b2 (hc : X.calm = true) (b : B2) : CallR X (b2V b) (rB2 X.K b) := by
  intro pins s σ H xs us Q I r h
  obtain ⟨F, x, y, u, v, t, rfl, sb, ha, hb, e, q⟩ := h
  unfold b2 at e
  split at e
  · cases e
    exact call_max2 hc pins s σ H _ us Q I r ⟨_, _, by rw [ha.int, hb.int], q _ (.int _)⟩
  · cases e
    exact call_min2 hc pins s σ H _ us Q I r ⟨_, _, by rw [ha.int, hb.int], q _ (.int _)⟩
  · cases e
end
end Ev

end
section
set_option linter.all false
set_option maxHeartbeats 2000000
/-! enumerate and zip of lists and tuples in any mix. -/
namespace Ev
open PySem PySem.Spec PyProof.Rows L2
def SqX (K : Fg) (b : Bool) (H : Hp) (a : Addr) (xs : List V) : Prop := match b with | true => SqL K H a xs | false => SqT K H a xs
def IsX (b : Bool) (h : Heap) (a : Addr) (its : Array Value) : Prop := match b with | true => h.IsList a its | false => h.IsTuple a its
def ItrX (b : Bool) (h : Heap) (it a : Addr) (i : Nat) : Prop := match b with | true => h.IsListIter it a i | false => h.IsTupleIter it a i
def objX (b : Bool) (a : Addr) : Obj := match b with | true => { cls := .type "list_iterator", data := .fields #[.ref a, .int 0 0] } | false => { cls := .type "tuple_iterator", data := .fields #[.ref a, .int 0 0] }
theorem begX (b : Bool) (a : Addr) (its : Array Value) : Begins (.ref a) (objX b a) fun h => IsX b h a its := by
  cases b with
  | true => exact begins_list a its
  | false => exact begins_tuple a its
theorem drawX {prog : Program} {w : World} {A : Around} (b : Bool) (hh : A.handled = none) (it a : Addr) (hne : a ≠ it) (its : Array Value) :
    Draws prog w A it [it, a] its.size (fun i v => its[i]? = some v) (fun i h => ItrX b h it a i ∧ IsX b h a its) := by
  cases b with
  | true => exact Draws.list hh it a hne its
  | false => exact Draws.tuple hh it a hne its
theorem itrX_new {b : Bool} {h : Heap} {it a : Addr} (e : h.get? it = some (objX b a)) : ItrX b h it a 0 := by
  cases b with
  | true => exact ⟨_, e, rfl, rfl⟩
  | false => exact ⟨_, e, rfl, rfl⟩
theorem itrX_at {b : Bool} {h h' : Heap} {it a : Addr} {i : Nat} (x : ItrX b h it a i) (k : ∀ o, h.get? it = some o → h'.get? it = some o) : ItrX b h' it a i := by
  cases b with
  | true => exact Heap.IsListIter.at x k
  | false => exact Heap.IsTupleIter.at x k
theorem itrX_obj {b : Bool} {h : Heap} {it a : Addr} {i : Nat} (x : ItrX b h it a i) : ∃ o, h.get? it = some o ∧ ∀ v, o.data ≠ .cell v := by
  cases b with
  | true => obtain ⟨o, e, _, d⟩ := x; exact ⟨o, e, fun v q => by rw [d] at q; cases q⟩
  | false => obtain ⟨o, e, _, d⟩ := x; exact ⟨o, e, fun v q => by rw [d] at q; cases q⟩
section
variable {X : Cx} {pins : List (Addr × Obj)} {σ : L2.St} {H : Hp} {s : Shared}
theorem seqX {b : Bool} {a : Addr} {xs : List V} (I : Inv X pins σ H s) (h : SqX X.K b H a xs) : ∃ its : List Value, Vals xs its ∧ IsX b s.heap a its.toArray ∧ a < s.heap.objs.size ∧ ∀ ys, SqX X.K b H a ys → ys = xs := by
  cases b with
  | true =>
    obtain ⟨its, r, p, _⟩ := I.list h
    exact ⟨its, r, p.isList, p.lt, fun ys q => I.list_inj q h⟩
  | false =>
    obtain ⟨its, r, p, _⟩ := I.tuple h
    obtain ⟨o, e, _⟩ := id p
    exact ⟨its, r, p, Heap.lt_size e, fun ys q => I.tuple_inj q h⟩
end
/-- pairs of f i and the i-th of xs .. -/
def ItP (G : Hp → Prop) (n : Nat) (Y : Nat → V → V → Prop) : It :=
  ⟨fun i H => G H ∧ i < n, fun i H v H' => ∃ T x y, v = .ref T ∧ H T = none ∧ H' = upd H T (.tup [x, y]) ∧ Y i x y, fun i H => G H ∧ i = n⟩
theorem turn_enumX {P : Program} {w : World} {K : Fg} {elts : List Expr} {kk : Nat} {tpos : Pos} (b : Bool) {a e it : Addr} {xs : List V} (h1 : e ≠ it) (h2 : a ≠ it) (h3 : e ≠ a) :
    Turn P w K (.Tuple elts kk tpos) (ItP (fun H => SqX K b H a xs) xs.length fun i x y => x = .int (i : Nat) ∧ xs[i]? = some y) [e, it] e
      (fun i h => (∃ old, IsEnum h e it (i : Int) old) ∧ ItrX b h it a i) where
  mem := by simp
  obj := fun i h st c hc => by
    obtain ⟨⟨old, he⟩, hi⟩ := st
    have e' : c = e ∨ c = it := by simpa using hc
    rcases e' with q | q
    · rw [q]; exact ⟨_, he, fun v q => nomatch q⟩
    · rw [q]; exact itrX_obj hi
  keep := fun i h h' st k => by
    obtain ⟨⟨old, he⟩, hi⟩ := st
    exact ⟨⟨old, k e (by simp) _ he⟩, itrX_at hi fun o q => k it (by simp) o q⟩
  item := by
    intro X hP hw hK hc i pins s σ H E I hf st hg
    subst hP hw hK
    obtain ⟨⟨old, he⟩, hi⟩ := st
    obtain ⟨hq, hlt⟩ := hg
    obtain ⟨its, rv, hl, hal, inj⟩ := seqX I hq
    have hh : X.A.in1.handled = none := I.ok.hd hc
    have W := WalksT.enumFrom (prog := X.prog) (w := X.w) (A := X.A) 0 (drawX b hh it a h2 its.toArray) e h1 (by simp [h1, h3]) (by simp)
    have hel : e < s.heap.objs.size := Heap.lt_size he
    have hil : it < s.heap.objs.size := by obtain ⟨o, q, _⟩ := itrX_obj hi; exact Heap.lt_size q
    have hn : i < its.toArray.size := by rw [List.size_toArray, ← rv.length]; exact hlt
    have z : (0 : Int) + (i : Int) = (i : Int) := by omega
    refine W.item i s _ _ hn ⟨⟨old, by rw [z]; exact he⟩, hi, hl⟩ fun T vals h' tk hP hT hTup hm hk => ?_
    obtain ⟨t, u, hu, rfl⟩ := hP
    refine ⟨_, rfl, W.go elts kk tpos i T { s with heap := h', toks := tk } _ _ hm fun h'' st'' hk2 => ?_⟩
    obtain ⟨_, _, hTe, hTi⟩ := hm
    have hTup2 : h''.IsTuple T #[.int (0 + (i : Int)) t, u] := hTup.at fun o q => hk2 T o (by simp [hTe, hTi]) q
    obtain ⟨x, hx⟩ : ∃ x, xs[i]? = some x := ⟨xs[i], by simp [hlt]⟩
    obtain ⟨u', hu', ru⟩ := rv.get hx
    have eu : u' = u := by
      have hu2 : its[i]? = some u := by simpa using hu
      rw [hu'] at hu2
      exact Option.some.inj hu2
    subst eu
    have new : ObjOk X.prog X.w (upd H T (.tup [.int (i : Nat), x])) h'' T (.tup [.int (i : Nat), x]) :=
      ⟨by show 2 ≤ sizeLine; decide, [.int (0 + (i : Int)) t, u'], .cons ⟨t, by rw [z]⟩ (.cons ru .nil), hTup2⟩
    have I1 : Inv X pins σ (upd H T (.tup [.int (i : Nat), x])) { s with heap := h'', toks := tk } :=
      I.turnedNew (ch := [e, it]) (fun c ob hb q => hk2 c ob hb (hk c ob hb q)) hf hT new
    refine ⟨.ref T, _, I1, rfl, ⟨T, _, x, rfl, I.hok.fresh hT, rfl, rfl, hx⟩, ⟨?_, ?_⟩, fun c hcm => ?_⟩
    · obtain ⟨⟨o2, q⟩, _⟩ := st''
      exact ⟨o2, by have zz : (0 : Int) + ((i + 1 : Nat) : Int) = ((i + 1 : Nat) : Int) := by omega
                    rw [zz] at q
                    exact q⟩
    · exact st''.2.1
    · have hlt2 : c < s.heap.objs.size := by
        have e' : c = e ∨ c = it := by simpa using hcm
        rcases e' with q | q
        · rw [q]; exact hel
        · rw [q]; exact hil
      rw [upd_ne (Nat.ne_of_lt (Nat.lt_of_lt_of_le hlt2 hT))]
      exact (hf c hcm).1
  done := by
    intro X hP hw hK hc i pins s σ H E I hf st hg
    subst hP hw hK
    obtain ⟨⟨old, he⟩, hi⟩ := st
    obtain ⟨hq, hlt⟩ := hg
    obtain ⟨its, rv, hl, hal, inj⟩ := seqX I hq
    have hh : X.A.in1.handled = none := I.ok.hd hc
    have W := WalksT.enumFrom (prog := X.prog) (w := X.w) (A := X.A) 0 (drawX b hh it a h2 its.toArray) e h1 (by simp [h1, h3]) (by simp)
    have z : (0 : Int) + (i : Int) = (i : Int) := by omega
    have hn : its.toArray.size = i := by rw [List.size_toArray, ← rv.length]; exact hlt.symm
    refine W.done s _ _ ?_ fun h' tk hk => ⟨rfl, ?_⟩
    · rw [hn]
      exact ⟨⟨old, by rw [z]; exact he⟩, hi, hl⟩
    · exact I.turnedL (ch := [e, it]) (t' := tk) (fun c o hb q => hk c o hb q) hf
  self := fun A i s Q E st h => let ⟨⟨_, he⟩, _⟩ := st; wpAny_pyIter_enum he h
end Ev

end
section
set_option linter.all false
set_option maxHeartbeats 2000000
set_option maxRecDepth 100000
namespace Ev
open PySem PySem.Spec PyProof.Rows L2
theorem meets_enum1 {v : Value} {o : Obj} {H : Heap → Prop} (B : Begins v o H) :
    Meets (Builtin.«enumerate.__new__» ⟨[.type "enumerate", v], []⟩) (fun _ R s => H s.heap ∧
      R (.ok (.ret (.ref (s.heap.push o).objs.size))) { s with heap := (s.heap.push o).push { cls := .type "enumerate", data := .fields #[.none, .bool false, .ref s.heap.objs.size, rawInt 0, .none, .none] } }) :=
  .of_wp fun prog w A R s h => by
    obtain ⟨hp, g, d, tk, os⟩ := s; obtain ⟨h1, h⟩ := h
    have hsub := sub_enumerate
    have q1 : ∀ {A' : Around} {E : Value → Shared → Prop} {Q : Value → Shared → Prop}, Q (.ref hp.objs.size) ⟨hp.push o, g, d, tk, os⟩ → wpAny (model prog w) A' (pyIter v) Q E ⟨hp, g, d, tk, os⟩ :=
      fun q => B.iter prog w _ _ ⟨hp, g, d, tk, os⟩ _ h1 q
    wp_walk using q1
    refine wpAny_stack_any fun st => wpAny_pure ?_
    split
    · rename_i c _ _ _ _ _
      cases (c == Value.type "enumerate")
      · wp_walk using q1
        exact ⟨_, rfl, h⟩
      · wp_walk using q1
        exact ⟨_, rfl, h⟩
    · wp_walk using q1
      exact ⟨_, rfl, h⟩
theorem call_enum1 {prog : Program} {w : World} {A : Around} {E : Value → Shared → Prop} {s : Shared} {v : Value} {o : Obj} {H : Heap → Prop} {Q : Value → Shared → Prop} (B : Begins v o H) (h1 : H s.heap)
    (h : ∀ h', IsEnum h' (s.heap.objs.size + 1) s.heap.objs.size 0 .none → h'.get? s.heap.objs.size = some o → h'.objs.size = s.heap.objs.size + 2 →
      (∀ b o, s.heap.get? b = some o → h'.get? b = some o) → Q (.ref (s.heap.objs.size + 1)) { s with heap := h' }) :
    wpAny (model prog w) A (call (.type "enumerate") [v]) Q E s := by
  refine callType_new F.called_enumerate (by decide) (F.typeCall_enumerate_1 _) (F.newCall_enumerate_1 _) (fun obj => F.args_object_init_2 obj _) F.entry_enumerate_new
    (meets_enum1 B) ⟨h1, ?_⟩
  have hz : (s.heap.push o).objs.size = s.heap.objs.size + 1 := Heap.size_push ..
  show _ ∧ _
  rw [hz]
  have he : IsEnum ((s.heap.push o).push
      { cls := .type "enumerate", data := .fields #[.none, .bool false, .ref s.heap.objs.size, rawInt 0, .none, .none] }) (s.heap.objs.size + 1) s.heap.objs.size 0 .none := by
    have := Heap.get?_push_size (s.heap.push o)
      (o := { cls := .type "enumerate", data := .fields #[.none, .bool false, .ref s.heap.objs.size, rawInt 0, .none, .none] }) rfl
    rw [hz] at this; exact this
  refine ⟨⟨_, he, rfl⟩, h _ he (Heap.get?_push_of_some _ (Heap.get?_push_size _ B.free)) (by rw [Heap.size_push, hz]) fun b o x => Heap.get?_push_of_some _ (Heap.get?_push_of_some _ x)⟩
def iEnumX (K : Fg) (ta : TA) : TI := fun σ H R => ta σ H fun vs H1 => ∃ b a xs, vs = [.ref a] ∧ SqX K b H1 a xs ∧ R (ItP (fun H => SqX K b H a xs) xs.length fun i x y => x = .int (i : Nat) ∧ xs[i]? = some y) H1
theorem pi_enumX {X : Cx} {e : Expr} {ta : TA} {p pos tpos : Pos} {elts : List Expr} {kk : Nat} (hg : Gl X "enumerate") (hm : X.mg "enumerate" = none) (ha : PA X [e] ta) (hs : starEach [e] X.env = [(false, eval e X.env)]) :
    PI X (.Tuple elts kk tpos) (.Call (.Name "enumerate" p) [e] [] pos) (iEnumX X.K ta) := by
  refine ⟨fun pins s σ H R I h => ?_⟩
  refine Call_ (ld_blt I hg hm boot_enumerate (PyProof.Rows.callWith_type1 (thn (ha.run pos pins s σ H _ I h) fun us s1 ⟨vs, H1, I1, r1, q1⟩ => ?_) hs rfl))
  obtain ⟨b, a, xs, ex, hq, q⟩ := q1
  subst ex
  cases r1 with
  | cons r rr =>
    cases rr
    cases r
    obtain ⟨its, rv, hl, hal, inj⟩ := seqX I1 hq
    refine call_enum1 (begX b a its.toArray) hl fun h' he hit hsz hk => wpAny_pyIter_enum he ?_
    have I2 : Inv X pins σ H1 { s1 with heap := h' } := I1.kept (t' := s1.toks) hk
    refine ⟨s1.heap.objs.size + 1, [s1.heap.objs.size + 1, s1.heap.objs.size], _, _, H1, rfl, I2, turn_enumX b (Nat.succ_ne_self _) (Nat.ne_of_lt hal) (Nat.ne_of_gt (Nat.lt_succ_of_lt hal)), ⟨⟨.none, he⟩, itrX_new hit⟩, fun c hb => ?_, q⟩
    have e' : c = s1.heap.objs.size + 1 ∨ c = s1.heap.objs.size := by simpa using hb
    have hle : s1.heap.objs.size ≤ c := by
      rcases e' with z | z
      · rw [z]; exact Nat.le_add_right _ _
      · rw [z]; exact Nat.le_refl _
    exact I1.fpOk hle (I1.hok.fresh hle)

structure Apart5 (z TI TO i1 i2 a c : Addr) : Prop where
  TIz : TI ≠ z
  TOz : TO ≠ z
  TITO : TI ≠ TO
  TIi1 : TI ≠ i1
  TIi2 : TI ≠ i2
  i1z : i1 ≠ z
  i2z : i2 ≠ z
  i1TO : i1 ≠ TO
  i2TO : i2 ≠ TO
  i12 : i1 ≠ i2
  az : a ≠ z
  aTO : a ≠ TO
  ai1 : a ≠ i1
  ai2 : a ≠ i2
  cz : c ≠ z
  cTO : c ≠ TO
  ci1 : c ≠ i1
  ci2 : c ≠ i2
theorem Apart5.sep {z TI TO i1 i2 a c : Addr} (D : Apart5 z TI TO i1 i2 a c) : ZipSep2 z TI TO i1 i2 [i1, a] [i2, c] where
  TIz := D.TIz
  TOz := D.TOz
  TITO := D.TITO
  TIi1 := D.TIi1
  mem1 := by simp
  zf1 := by simp [D.i1z.symm, D.az.symm]
  Tf1 := by simp [D.i1TO.symm, D.aTO.symm]
  TIi2 := D.TIi2
  mem2 := by simp
  zf2 := by simp [D.i2z.symm, D.cz.symm]
  Tf2 := by simp [D.i2TO.symm, D.cTO.symm]
  sep1_2 := by simp [D.i12, D.ci1.symm]
  sep2_1 := by simp [D.i12.symm, D.ai2.symm]
theorem turn_zipX {P : Program} {w : World} {K : Fg} {elts : List Expr} {kk : Nat} {tpos : Pos} (b1 b2 : Bool) {a c z TI TO i1 i2 : Addr} {xs ys : List V} (D : Apart5 z TI TO i1 i2 a c) :
    Turn P w K (.Tuple elts kk tpos) (ItP (fun H => SqX K b1 H a xs ∧ SqX K b2 H c ys) (min xs.length ys.length) fun i x y => xs[i]? = some x ∧ ys[i]? = some y) [z, TI, TO, i1, i2] z
      (fun i h => IsZip h z TI TO .none ∧ IsTupOf2 h TI (.ref i1) (.ref i2) ∧ (∃ a1 a2, IsTupOf2 h TO a1 a2) ∧ ItrX b1 h i1 a i ∧ ItrX b2 h i2 c i) where
  mem := by simp
  obj := fun i h st k hk => by
    obtain ⟨hz, hTI, ⟨x, y, hTO⟩, h1, h2⟩ := st
    have e' : k = z ∨ k = TI ∨ k = TO ∨ k = i1 ∨ k = i2 := by simpa using hk
    rcases e' with q | q | q | q | q
    · rw [q]; exact ⟨_, hz, fun v q => nomatch q⟩
    · rw [q]; exact ⟨_, hTI, fun v q => nomatch q⟩
    · rw [q]; exact ⟨_, hTO, fun v q => nomatch q⟩
    · rw [q]; exact itrX_obj h1
    · rw [q]; exact itrX_obj h2
  keep := fun i h h' st k => by
    obtain ⟨hz, hTI, ⟨x, y, hTO⟩, h1, h2⟩ := st
    exact ⟨k z (by simp) _ hz, k TI (by simp) _ hTI, ⟨x, y, k TO (by simp) _ hTO⟩, itrX_at h1 fun o q => k i1 (by simp) o q, itrX_at h2 fun o q => k i2 (by simp) o q⟩
  item := by
    intro X hP hw hK hc i pins s σ H E I hf st hg
    subst hP hw hK
    obtain ⟨hz, hTI, hTO, h1, h2⟩ := st
    obtain ⟨⟨hq1, hq2⟩, hlt⟩ := hg
    obtain ⟨its, rv, hl, hal, _⟩ := seqX I hq1
    obtain ⟨its2, rv2, hl2, hal2, _⟩ := seqX I hq2
    have hh : X.A.in1.handled = none := I.ok.hd hc
    have W := WalksT.zipD2 (prog := X.prog) (w := X.w) (A := X.A) D.sep (drawX b1 hh i1 a D.ai1 its.toArray) (drawX b2 hh i2 c D.ci2 its2.toArray)
    have hn : i < min its.toArray.size its2.toArray.size := by rw [List.size_toArray, List.size_toArray, ← rv.length, ← rv2.length]; exact hlt
    have hl1 : i < xs.length := by omega
    have hl22 : i < ys.length := by omega
    refine W.item i s _ _ hn ⟨hz, hTI, hTO, ⟨h1, hl⟩, ⟨h2, hl2⟩⟩ fun T vals h' tk hP hT hTup hm hk => ?_
    obtain ⟨u1, u2, hu1, hu2, rfl⟩ := hP
    refine ⟨_, rfl, W.go elts kk tpos i T { s with heap := h', toks := tk } _ _ hm fun h'' st'' hk2 => ?_⟩
    have nT := W.apart i T h' hm
    have hTup2 : h''.IsTuple T #[u1, u2] := hTup.at fun o q => hk2 T o nT q
    obtain ⟨x, hx⟩ : ∃ x, xs[i]? = some x := ⟨xs[i], by simp [hl1]⟩
    obtain ⟨y, hy⟩ : ∃ y, ys[i]? = some y := ⟨ys[i], by simp [hl22]⟩
    obtain ⟨u1', hu1', ru1⟩ := rv.get hx
    obtain ⟨u2', hu2', ru2⟩ := rv2.get hy
    have e1 : u1' = u1 := by
      have q : its[i]? = some u1 := by simpa using hu1
      rw [hu1'] at q
      exact Option.some.inj q
    have e2 : u2' = u2 := by
      have q : its2[i]? = some u2 := by simpa using hu2
      rw [hu2'] at q
      exact Option.some.inj q
    subst e1 e2
    have new : ObjOk X.prog X.w (upd H T (.tup [x, y])) h'' T (.tup [x, y]) := ⟨by show 2 ≤ sizeLine; decide, [u1', u2'], .cons ru1 (.cons ru2 .nil), hTup2⟩
    have hkk : ∀ k o, k ∉ [z, TI, TO, i1, i2] → s.heap.get? k = some o → h''.get? k = some o := fun k o hb q => by
      have nb : k ∉ [z, TO, i1, i2] := fun q' => hb (by
        have e' : k = z ∨ k = TO ∨ k = i1 ∨ k = i2 := by simpa using q'
        rcases e' with r | r | r | r <;> simp [r])
      exact hk2 k o nb (hk k o nb q)
    have I1 : Inv X pins σ (upd H T (.tup [x, y])) { s with heap := h'', toks := tk } := I.turnedNew (ch := [z, TI, TO, i1, i2]) hkk hf hT new
    have zlt : z < s.heap.objs.size := Heap.lt_size hz
    have TIlt : TI < s.heap.objs.size := Heap.lt_size hTI
    have TOlt : TO < s.heap.objs.size := by obtain ⟨_, _, q⟩ := hTO; exact Heap.lt_size q
    have i1lt : i1 < s.heap.objs.size := by obtain ⟨_, q, _⟩ := itrX_obj h1; exact Heap.lt_size q
    have i2lt : i2 < s.heap.objs.size := by obtain ⟨_, q, _⟩ := itrX_obj h2; exact Heap.lt_size q
    refine ⟨.ref T, _, I1, rfl, ⟨T, x, y, rfl, I.hok.fresh hT, rfl, hx, hy⟩, ⟨st''.1, st''.2.1, st''.2.2.1, st''.2.2.2.1.1, st''.2.2.2.2.1⟩, fun k hcm => ?_⟩
    have hlt2 : k < s.heap.objs.size := by
      have e' : k = z ∨ k = TI ∨ k = TO ∨ k = i1 ∨ k = i2 := by simpa using hcm
      rcases e' with q | q | q | q | q <;> (rw [q]; assumption)
    rw [upd_ne (Nat.ne_of_lt (Nat.lt_of_lt_of_le hlt2 hT))]
    exact (hf k hcm).1
  done := by
    intro X hP hw hK hc i pins s σ H E I hf st hg
    subst hP hw hK
    obtain ⟨hz, hTI, hTO, h1, h2⟩ := st
    obtain ⟨⟨hq1, hq2⟩, hlt⟩ := hg
    obtain ⟨its, rv, hl, hal, _⟩ := seqX I hq1
    obtain ⟨its2, rv2, hl2, hal2, _⟩ := seqX I hq2
    have hh : X.A.in1.handled = none := I.ok.hd hc
    have W := WalksT.zipD2 (prog := X.prog) (w := X.w) (A := X.A) D.sep (drawX b1 hh i1 a D.ai1 its.toArray) (drawX b2 hh i2 c D.ci2 its2.toArray)
    have hn : min its.toArray.size its2.toArray.size = i := by rw [List.size_toArray, List.size_toArray, ← rv.length, ← rv2.length]; exact hlt.symm
    refine W.done s _ _ ?_ fun h' tk hk => ⟨rfl, ?_⟩
    · rw [hn]
      exact ⟨hz, hTI, hTO, ⟨h1, hl⟩, ⟨h2, hl2⟩⟩
    · refine I.turnedL (ch := [z, TI, TO, i1, i2]) (t' := tk) (fun k o hb q => hk k o (fun q' => hb (by
        have e' : k = z ∨ k = TO ∨ k = i1 ∨ k = i2 := by simpa using q'
        rcases e' with r | r | r | r <;> simp [r])) q) hf
  self := fun A i s Q E st h => wpAny_pyIter_zip st.1 h
def iZipX (K : Fg) (ta : TA) : TI := fun σ H R => ta σ H fun vs H1 => ∃ b1 b2 a c xs ys, vs = [.ref a, .ref c] ∧ SqX K b1 H1 a xs ∧ SqX K b2 H1 c ys ∧
  R (ItP (fun H => SqX K b1 H a xs ∧ SqX K b2 H c ys) (min xs.length ys.length) fun i x y => xs[i]? = some x ∧ ys[i]? = some y) H1
theorem pi_zipX {X : Cx} {e e2 : Expr} {ta : TA} {p pos tpos : Pos} {elts : List Expr} {kk : Nat} (hg : Gl X "zip") (hm : X.mg "zip" = none) (ha : PA X [e, e2] ta)
    (hs : starEach [e, e2] X.env = (false, eval e X.env) :: starEach [e2] X.env) (hpl : (backTo pos (starEach [e2] X.env)).any (·.1) = false) :
    PI X (.Tuple elts kk tpos) (.Call (.Name "zip" p) [e, e2] [] pos) (iZipX X.K ta) := by
  refine ⟨fun pins s σ H R I h => ?_⟩
  refine Call_ (ld_blt I hg hm PyProof.Rows.boot_zip (PyProof.Rows.callWith_type1 (thn (ha.run pos pins s σ H _ I h) fun us s1 ⟨vs, H1, I1, r1, q1⟩ => ?_) hs hpl))
  obtain ⟨b1, b2, a, c, xs, ys, ex, hq1, hq2, q⟩ := q1
  subst ex
  cases r1 with
  | cons r rr =>
    cases rr with
    | cons r' rr =>
      cases rr
      cases r
      cases r'
      obtain ⟨its, rv, hl, hal, _⟩ := seqX I1 hq1
      obtain ⟨its2, rv2, hl2, hal2, _⟩ := seqX I1 hq2
      refine zip_begins2 (begX b1 a its.toArray) (begX b2 c its2.toArray) hl hl2 fun h' hz hTI hTO h1 h2 hsz hk => wpAny_pyIter_zip hz ?_
      have I2 : Inv X pins σ H1 { s1 with heap := h' } := I1.kept (t' := s1.toks) hk
      have D : Apart5 (s1.heap.objs.size + 4) (s1.heap.objs.size + 2) (s1.heap.objs.size + 3) s1.heap.objs.size (s1.heap.objs.size + 1) a c := by
        have ap : ∀ n x y : Nat, x < n → y < n → Apart5 (n + 4) (n + 2) (n + 3) n (n + 1) x y := fun n x y hx hy => by
          constructor <;> (show (_ : Nat) ≠ _) <;> omega
        exact ap _ _ _ hal hal2
      refine ⟨s1.heap.objs.size + 4, [s1.heap.objs.size + 4, s1.heap.objs.size + 2, s1.heap.objs.size + 3, s1.heap.objs.size, s1.heap.objs.size + 1], _, _, H1, rfl, I2, turn_zipX b1 b2 D, ⟨hz, hTI, ⟨_, _, hTO⟩, itrX_new h1, itrX_new h2⟩, fun k hcm => ?_, q⟩
      have hle : s1.heap.objs.size ≤ k := by
        have e' : k = s1.heap.objs.size + 4 ∨ k = s1.heap.objs.size + 2 ∨ k = s1.heap.objs.size + 3 ∨ k = s1.heap.objs.size ∨ k = s1.heap.objs.size + 1 := by simpa using hcm
        rcases e' with z | z | z | z | z
        · rw [z]; exact Nat.le_add_right _ _
        · rw [z]; exact Nat.le_add_right _ _
        · rw [z]; exact Nat.le_add_right _ _
        · rw [z]; exact Nat.le_refl _
        · rw [z]; exact Nat.le_add_right _ _
      exact I1.fpOk hle (I1.hok.fresh hle)
end Ev

end
section
set_option linter.all false
set_option maxHeartbeats 2000000
/-! Readings of expressions by the evaluator. -/
namespace Ev
open PySem PySem.Spec PyProof.Rows L2

theorem PE.imp {X : Cx} {e : Expr} {t t' : TE} (h : PE X e t) (w : ∀ σ H Q, t' σ H Q → t σ H Q) : PE X e t' := ⟨fun pins s σ H Q I q => h.run pins s σ H Q I (w σ H Q q)⟩
theorem PT.imp {X : Cx} {e : Expr} {t t' : TT} (h : PT X e t) (w : ∀ σ H Q, t' σ H Q → t σ H Q) : PT X e t' := ⟨fun pins s σ H Q I q => h.run pins s σ H Q I (w σ H Q q)⟩
theorem PW.imp {X : Cx} {e : Expr} {t t' : TT} (h : PW X e t) (w : ∀ σ H Q, t' σ H Q → t σ H Q) : PW X e t' := ⟨fun wh pins s σ H Q I q => h.run wh pins s σ H Q I (w σ H Q q)⟩
theorem PA.imp {X : Cx} {e : List Expr} {t t' : TA} (h : PA X e t) (w : ∀ σ H Q, t' σ H Q → t σ H Q) : PA X e t' := ⟨fun p pins s σ H Q I q => h.run p pins s σ H Q I (w σ H Q q)⟩
theorem PI.imp {X : Cx} {tg e : Expr} {t t' : TI} (h : PI X tg e t) (w : ∀ σ H Q, t' σ H Q → t σ H Q) : PI X tg e t' := ⟨fun pins s σ H Q I q => h.run pins s σ H Q I (w σ H Q q)⟩
theorem PG.imp {X : Cx} {e : Expr} {t t' : TG} (h : PG X e t) (w : ∀ v σ H Q, t' v σ H Q → t v σ H Q) : PG X e t' := by
  obtain ⟨h⟩ := h
  exact ⟨by intros; apply h <;> first | assumption | (apply w; assumption)⟩
theorem PE.or {X : Cx} {e : Expr} {t t' : TE} (h : PE X e t) (h' : PE X e t') : PE X e (fun σ H Q => t σ H Q ∨ t' σ H Q) := ⟨fun pins s σ H Q I q => q.elim (h.run pins s σ H Q I) (h'.run pins s σ H Q I)⟩
theorem PT.or {X : Cx} {e : Expr} {t t' : TT} (h : PT X e t) (h' : PT X e t') : PT X e (fun σ H Q => t σ H Q ∨ t' σ H Q) := ⟨fun pins s σ H Q I q => q.elim (h.run pins s σ H Q I) (h'.run pins s σ H Q I)⟩
theorem PI.or {X : Cx} {tg e : Expr} {t t' : TI} (h : PI X tg e t) (h' : PI X tg e t') : PI X tg e (fun σ H Q => t σ H Q ∨ t' σ H Q) := ⟨fun pins s σ H Q I q => q.elim (h.run pins s σ H Q I) (h'.run pins s σ H Q I)⟩

/-- the readings: the evaluator comes to an end, and whatever stands for it is fine -/
def RdE (K : Fg) (B : Bs) (g : Env → Res TV) : TE := fun σ H Q => ∃ F r, StR K B F H σ r ∧ ∃ t r', g r = .ok t r' ∧ ∀ x F' H', Post K B σ r F H r' F' H' → TvR K H σ F' H' t x → Q x H'
def RdC (K : Fg) (B : Bs) (g : Env → Res Bool) : TT := fun σ H Q => ∃ F r, StR K B F H σ r ∧ ∃ t r', g r = .ok t r' ∧ ∀ F' H', Post K B σ r F H r' F' H' → Q t H'
def RdA (K : Fg) (B : Bs) (g : Env → Res (List D)) : TA := fun σ H Q => ∃ F r, StR K B F H σ r ∧ ∃ t r', g r = .ok t r' ∧ ∀ xs F' H', Post K B σ r F H r' F' H' → RpL K F' xs t → Q xs H'
/-- an iterator over the data ds -/
structure WkD (K : Fg) (F : Hp) (J : It) (ds : List D) : Prop where
  goes : ∀ i H, i < ds.length → Sub F H → J.go i H
  stops : ∀ H, Sub F H → J.stop ds.length H
  yields : ∀ i H x H', i < ds.length → Sub F H → J.yld i H x H' → ∃ d, ds[i]? = some d ∧ Out K F H (.d d) x H'
def RdI (K : Fg) (B : Bs) (g : Env → Res (List D)) : TI := fun σ H R => ∃ F r, StR K B F H σ r ∧ ∃ t r', g r = .ok t r' ∧ ∀ J F' H', Post K B σ r F H r' F' H' → WkD K F' J t → R J H'

theorem StR.ne {K : Fg} {B : Bs} {F H : Hp} {σ : L2.St} {r : Env} (s : StR K B F H σ r) : ∀ a, Own σ r a → H a ≠ none := fun a h => by
  obtain ⟨o, e, _⟩ := s.ownH h
  rw [e]
  simp
theorem TvR.back {K : Fg} {H0 H1 : Hp} {σ : L2.St} {F H : Hp} {t : TV} {x : V} (h : TvR K H1 σ F H t x) (d : ∀ a, H0 a ≠ none → H1 a ≠ none) : TvR K H0 σ F H t x := by
  cases t with
  | d v => exact h
  | s i => exact h
  | f v =>
    obtain ⟨p, o, e, e1, e2, e3, e4⟩ := h
    exact ⟨p, o, e, e1, e2, e3, Classical.byContradiction fun n => d p n e4⟩
theorem Post.ne {K : Fg} {B : Bs} {σ : L2.St} {r r1 : Env} {F H F1 H1 : Hp} (p : Post K B σ r F H r1 F1 H1) (s : StR K B F H σ r) : ∀ a, Own σ r1 a → H a ≠ none := fun a h => s.ne a (p.own a h)

/-- an expression's value is given away -/
theorem solid_post {K : Fg} {B : Bs} {σ : L2.St} {r r1 r2 : Env} {F H F1 H1 : Hp} {t : TV} {x : V} {d : D} (s : StR K B F H σ r) (p : Post K B σ r F H r1 F1 H1) (h : TvR K H σ F1 H1 t x) (e : solid r1 t = some (d, r2)) :
    ∃ F2, Post K B σ r F H r2 F2 H1 ∧ Rp K F2 x d ∧ Sub F1 F2 := by
  obtain ⟨F2, h1, h2, h3, h4, h5⟩ := solid_rp p.st (p.ne s) h e
  refine ⟨F2, ⟨h2, p.mono.trans h3, p.frame, p.dom, fun a q => ?_, fun a q => p.own a (h5 a q)⟩, h1, h3⟩
  rcases h4 a q with z | z | z
  · exact p.fr a z
  · exact .inr (.inl z)
  · exact .inr (.inr (p.own a z))
theorem solidR_ok {r r' : Env} {t : TV} {d : D} (e : solidR r t = .ok d r') : solid r t = some (d, r') := by
  unfold solidR at e
  split at e
  · cases e; assumption
  · cases e
theorem bind_inv {α β : Type} {m : Res α} {f : α → Env → Res β} {b : β} {r : Env} (h : m.bind f = .ok b r) : ∃ a r1, m = .ok a r1 ∧ f a r1 = .ok b r := by
  cases m with
  | ok a r1 => exact ⟨a, r1, rfl, h⟩
  | exc c d r1 => cases h
  | stuck => cases h
theorem of_inv {α : Type} {o : Option α} {r r' : Env} {a : α} (h : Res.of o r = .ok a r') : o = some a ∧ r = r' := by
  unfold Res.of at h
  split at h
  · cases h; exact ⟨rfl, rfl⟩
  · cases h

section
variable {X : Cx} {B : Bs} {e a b c : Expr} {pos : Pos} {f g h : Env → Res TV}
theorem rd_var {i : Nat} {x : Str} (hN : X.N[i]? = some x) (hv : Vis X.env.scope x) (hd : (x == ("__debug__" : Str)) = false) (hcd : (x == ("__classdict__" : Str)) = false) (call : Nat → List Sl → CR) :
    PE X (.Name x pos) (RdE X.K B (ev call (.var i)).1) := by
  refine PE.imp (pe_var hN hv hd hcd) fun σ H Q ⟨F, r, s, t, r', e, k⟩ => ?_
  simp only [ev, tst] at e
  split at e
  · cases e
    rename_i d hr
    obtain ⟨y, e1, e2⟩ := s.val i _ hr
    exact ⟨y, e1, k y F H (Post.refl s) e2⟩
  · cases e
    rename_i d hr
    obtain ⟨y, o, e1, _⟩ := s.obj i _ (.inl hr)
    exact ⟨_, e1, k _ F H (Post.refl s) e1⟩
  · cases e
    rename_i d hr
    obtain ⟨y, o, e1, _⟩ := s.obj i _ (.inr hr)
    exact ⟨_, e1, k _ F H (Post.refl s) e1⟩
  · cases e
theorem rd_two {h : TV → TV → Env → Res TV} (r2 : R2) (hq : ∀ σ F H r t u v r' x y Q, StR X.K B F H σ r → h t u r = .ok v r' →
      (∀ d, deref r t = some d → Rq X.K F H x d) → (∀ d, deref r u = some d → Rq X.K F H y d) →
      (∀ z F' H', Post X.K B σ r F H r' F' H' → TvR X.K H σ F' H' v z → Q z H') → r2 x y H Q)
    {σ : L2.St} {H : Hp} {Q : VK} (q : RdE X.K B (fun r => (f r).bind fun x r1 => (g r1).bind fun y r2 => h x y r2) σ H Q) : tOp r2 (RdE X.K B f) (RdE X.K B g) σ H Q := by
  obtain ⟨F, r, s, t, r', e, k⟩ := q
  obtain ⟨x, r1, e1, e⟩ := bind_inv e
  obtain ⟨y, r2', e2, e⟩ := bind_inv e
  refine ⟨F, r, s, x, r1, e1, fun xv F1 H1 p1 t1 => ⟨F1, r1, p1.st, y, r2', e2, fun yv F2 H2 p2 t2 => ?_⟩⟩
  have t1' := t1.keep p2 (p1.ne s)
  refine hq σ F2 H2 r2' x y t r' xv yv Q p2.st e (fun d q => deref_rq p2.st t1' q) (fun d q => deref_rq p2.st t2 q) fun z F3 H3 p3 t3 => ?_
  exact k z F3 H3 ((p1.trans p2).trans p3) (t3.back fun a q => p2.dom a (p1.dom a q))
theorem rd_bin (o : Bo) (ha : PE X a (RdE X.K B f)) (hb : PE X b (RdE X.K B g)) :
    PE X (.BinOp a (opB o) b pos) (RdE X.K B fun r => (f r).bind fun x r1 => (g r1).bind fun y r2 => match deref r2 x, deref r2 y with
      | some u, some v => .of (bop o u v) r2
      | _, _ => .stuck) := by
  refine PE.imp (pe_op (or_bop o) ha hb) fun σ H Q q => rd_two _ (fun σ F H r t u v r' x y Q s e hx hy k => ?_) q
  split at e
  · rename_i d1 d2 z1 z2
    obtain ⟨e1, rfl⟩ := of_inv e
    refine ⟨F, d1, d2, v, s.sub, hx _ z1, hy _ z2, e1, fun z H' o => ?_⟩
    obtain ⟨F', p, tv⟩ := o.post s
    exact k z F' H' p tv
  · cases e
theorem rd_cmp (hu : X.A.units + 65 < cLine) (o : Co) (hm : behindInMarks (opC o) b = false) (ha : PE X a (RdE X.K B f)) (hb : PE X b (RdE X.K B g)) :
    PE X (.Compare a [opC o] [b] pos) (RdE X.K B fun r => (f r).bind fun x r1 => (g r1).bind fun y r2 => match deref r2 x, deref r2 y with
      | some u, some v => .of ((cop o u v).map fun t => .d (.bool t)) r2
      | _, _ => .stuck) := by
  refine PE.imp (pe_cmpR (or_cop hu o) ha hb hm) fun σ H Q q => rd_two _ (fun σ F H r t u v r' x y Q s e hx hy k => ?_) q
  split at e
  · rename_i d1 d2 z1 z2
    obtain ⟨e1, rfl⟩ := of_inv e
    rw [Option.map_eq_some_iff] at e1
    obtain ⟨b, e1, rfl⟩ := e1
    exact ⟨F, d1, d2, b, s.sub, hx _ z1, hy _ z2, e1, k _ F H (Post.refl s) (.bl b)⟩
  · cases e
theorem rd_idx (hs : PlainIx b) (ha : PE X a (RdE X.K B f)) (hb : PE X b (RdE X.K B g)) :
    PE X (.Subscript a b pos) (RdE X.K B fun r => (f r).bind fun x r1 => (g r1).bind fun y r2 => match deref r2 x, deref r2 y with
      | some u, some v => .of ((idx u v).map .d) r2
      | _, _ => .stuck) := by
  refine PE.imp (pe_ix ix_idx ha hb hs) fun σ H Q q => rd_two _ (fun σ F H r t u v r' x y Q s e hx hy k => ?_) q
  split at e
  · rename_i d1 d2 z1 z2
    obtain ⟨e1, rfl⟩ := of_inv e
    rw [Option.map_eq_some_iff] at e1
    obtain ⟨b, e1, rfl⟩ := e1
    exact ⟨F, d1, d2, b, s.sub, hx _ z1, hy _ z2, e1, fun z hz => k _ F H (Post.refl s) hz⟩
  · cases e
/-- a test by the truth of a value -/
theorem rd_tst (he : ∀ whole, isTrue e X.env whole = (do let v ← whole; standAt e.pos; holding [v] (truthy v))) (ha : PE X e (RdE X.K B f)) : PT X e (RdC X.K B (tst f).2) := by
  refine PT.imp (pt_truth ha he) fun σ H Q ⟨F, r, s, t, r', e, k⟩ => ?_
  simp only [tst] at e
  obtain ⟨x, r1, e1, e⟩ := bind_inv e
  refine ⟨F, r, s, x, r1, e1, fun xv F1 H1 p1 t1 => ?_⟩
  split at e
  · rename_i d1 z1
    obtain ⟨e2, rfl⟩ := of_inv e
    exact ⟨t, truth_tru p1.st.sub (deref_rq p1.st t1 z1) e2, k F1 H1 p1⟩
  · cases e
/-- a comparison as a test -/
theorem rd_cmpT (hu : X.A.units + 65 < cLine) (o : Co) (hm : behindInMarks (opC o) b = false) (ha : PE X a (RdE X.K B f)) (hb : PE X b (RdE X.K B g)) :
    PT X (.Compare a [opC o] [b] pos) (RdC X.K B (tst fun r => (f r).bind fun x r1 => (g r1).bind fun y r2 => match deref r2 x, deref r2 y with
      | some u, some v => .of ((cop o u v).map fun t => .d (.bool t)) r2
      | _, _ => .stuck).2) := by
  refine PT.imp (pt_cmpR (or_cop hu o) ha hb hm) fun σ H Q q => ?_
  refine rd_two (h := fun x y r2 => match deref r2 x, deref r2 y with
      | some u, some v => .of ((cop o u v).map fun t => .d (.bool t)) r2
      | _, _ => .stuck) _ (fun σ F H r t u v r' x y Q s e hx hy k => ?_) ?_
  · split at e
    · rename_i d1 d2 z1 z2
      obtain ⟨e1, rfl⟩ := of_inv e
      rw [Option.map_eq_some_iff] at e1
      obtain ⟨b, e1, rfl⟩ := e1
      exact ⟨F, d1, d2, b, s.sub, hx _ z1, hy _ z2, e1, k _ F H (Post.refl s) (.bl b)⟩
    · cases e
  · obtain ⟨F, r, s, t, r', e, k⟩ := q
    simp only [tst] at e
    obtain ⟨x, r1, e1, e⟩ := bind_inv e
    refine ⟨F, r, s, x, r1, e1, fun z F' H' p tv => ?_⟩
    have key : ∃ bb : Bool, x = .d (.bool bb) := by
      obtain ⟨x1, r2, _, e1⟩ := bind_inv e1
      obtain ⟨y1, r3, _, e1⟩ := bind_inv e1
      split at e1
      · obtain ⟨e1, _⟩ := of_inv e1
        rw [Option.map_eq_some_iff] at e1
        obtain ⟨_, _, e1⟩ := e1
        exact ⟨_, e1.symm⟩
      · cases e1
    obtain ⟨bb, rfl⟩ := key
    cases tv
    obtain ⟨e2, rfl⟩ := of_inv e
    cases e2
    exact ⟨_, rfl, k F' H' p⟩
end
end Ev

end
section
set_option linter.all false
set_option maxHeartbeats 2000000
namespace Ev
open PySem PySem.Spec PyProof.Rows L2
section
variable {X : Cx} {B : Bs} {e a b c : Expr} {pos : Pos} {f g h : Env → Res TV} {fc gc : Env → Res Bool}
theorem rd_neg (ha : PE X a (RdE X.K B f)) : PE X (.UnaryOp .USub a pos) (RdE X.K B fun r => (f r).bind fun x r1 => match x with
      | .d (.int i) => .ok (.d (.int (-i))) r1
      | _ => .stuck) := by
  refine PE.imp (pe_un un_neg ha) fun σ H Q ⟨F, r, s, t, r', e, k⟩ => ?_
  obtain ⟨x, r1, e1, e⟩ := bind_inv e
  refine ⟨F, r, s, x, r1, e1, fun xv F1 H1 p1 t1 => ?_⟩
  split at e
  · cases e
    cases t1
    exact ⟨_, rfl, k _ F1 H1 p1 (.int _)⟩
  · cases e
theorem rd_not (ha : PE X a (RdE X.K B f)) : PE X (.UnaryOp .Not a pos) (RdE X.K B fun r => ((tst f).2 r).bind fun t r1 => .ok (.d (.bool (!t))) r1) := by
  refine PE.imp (pe_notT ha) fun σ H Q ⟨F, r, s, t, r', e, k⟩ => ?_
  obtain ⟨b, r1, e0, e⟩ := bind_inv e
  cases e
  simp only [tst] at e0
  obtain ⟨x, r2, e1, e2⟩ := bind_inv e0
  refine ⟨F, r, s, x, r2, e1, fun xv F1 H1 p1 t1 => ?_⟩
  split at e2
  · rename_i d1 z1
    obtain ⟨e3, rfl⟩ := of_inv e2
    exact ⟨b, truth_tru p1.st.sub (deref_rq p1.st t1 z1) e3, k _ F1 H1 p1 (.bl _)⟩
  · cases e2
theorem rd_notT (ha : PT X a (RdC X.K B fc)) : PT X (.UnaryOp .Not a pos) (RdC X.K B fun r => (fc r).bind fun t r1 => .ok (!t) r1) := by
  refine PT.imp (pt_not ha) fun σ H Q ⟨F, r, s, t, r', e, k⟩ => ?_
  obtain ⟨x, r1, e1, e⟩ := bind_inv e
  cases e
  exact ⟨F, r, s, x, r', e1, fun F1 H1 p1 => k F1 H1 p1⟩
theorem rd_andE (ha : PE X a (RdE X.K B f)) {rest : List Expr} (hb : PE X (.BoolOp .And (b :: rest) pos) (RdE X.K B g)) : PE X (.BoolOp .And (a :: b :: rest) pos) (RdE X.K B fun r => (f r).bind fun x r1 => match x with
      | .d (.bool true) => g r1
      | .d (.bool false) => .ok (.d (.bool false)) r1
      | _ => .stuck) := by
  refine PE.imp (pe_and ha hb) fun σ H Q ⟨F, r, s, t, r', e, k⟩ => ?_
  obtain ⟨x, r1, e1, e⟩ := bind_inv e
  refine ⟨F, r, s, x, r1, e1, fun xv F1 H1 p1 t1 => ?_⟩
  split at e
  · cases t1
    refine ⟨true, rfl, ?_⟩
    rw [if_pos rfl]
    exact ⟨F1, r1, p1.st, t, r', e, fun z F2 H2 p2 t2 => k z F2 H2 (p1.trans p2) (t2.back p1.dom)⟩
  · cases e
    cases t1
    refine ⟨false, rfl, ?_⟩
    rw [if_neg (by decide)]
    exact k _ F1 H1 p1 (.bl _)
  · cases e
theorem rd_orE (ha : PE X a (RdE X.K B f)) {rest : List Expr} (hb : PE X (.BoolOp .Or (b :: rest) pos) (RdE X.K B g)) : PE X (.BoolOp .Or (a :: b :: rest) pos) (RdE X.K B fun r => (f r).bind fun x r1 => match x with
      | .d (.bool true) => .ok (.d (.bool true)) r1
      | .d (.bool false) => g r1
      | _ => .stuck) := by
  refine PE.imp (pe_or ha hb) fun σ H Q ⟨F, r, s, t, r', e, k⟩ => ?_
  obtain ⟨x, r1, e1, e⟩ := bind_inv e
  refine ⟨F, r, s, x, r1, e1, fun xv F1 H1 p1 t1 => ?_⟩
  split at e
  · cases e
    cases t1
    refine ⟨true, rfl, ?_⟩
    rw [if_pos rfl]
    exact k _ F1 H1 p1 (.bl _)
  · cases t1
    refine ⟨false, rfl, ?_⟩
    rw [if_neg (by decide)]
    exact ⟨F1, r1, p1.st, t, r', e, fun z F2 H2 p2 t2 => k z F2 H2 (p1.trans p2) (t2.back p1.dom)⟩
  · cases e
theorem rd_one {op : BoolOp} (ha : PE X a (RdE X.K B f)) : PE X (.BoolOp op [a] pos) (RdE X.K B f) := pe_one ha
theorem rd_andC (ha : PT X a (RdC X.K B fc)) {rest : List Expr} (hb : PW X (.BoolOp .And (b :: rest) pos) (RdC X.K B gc)) : PW X (.BoolOp .And (a :: b :: rest) pos) (RdC X.K B fun r => (fc r).bind fun t r1 => match t with
      | true => gc r1
      | false => .ok false r1) := by
  refine PW.imp (pw_and ha hb) fun σ H Q ⟨F, r, s, t, r', e, k⟩ => ?_
  obtain ⟨x, r1, e1, e⟩ := bind_inv e
  refine ⟨F, r, s, x, r1, e1, fun F1 H1 p1 => ?_⟩
  cases x with
  | true =>
    rw [if_pos rfl]
    exact ⟨F1, r1, p1.st, t, r', e, fun F2 H2 p2 => k F2 H2 (p1.trans p2)⟩
  | false =>
    rw [if_neg (by decide)]
    cases e
    exact k F1 H1 p1
theorem rd_orC (ha : PT X a (RdC X.K B fc)) {rest : List Expr} (hb : PW X (.BoolOp .Or (b :: rest) pos) (RdC X.K B gc)) : PW X (.BoolOp .Or (a :: b :: rest) pos) (RdC X.K B fun r => (fc r).bind fun t r1 => match t with
      | true => .ok true r1
      | false => gc r1) := by
  refine PW.imp (pw_or ha hb) fun σ H Q ⟨F, r, s, t, r', e, k⟩ => ?_
  obtain ⟨x, r1, e1, e⟩ := bind_inv e
  refine ⟨F, r, s, x, r1, e1, fun F1 H1 p1 => ?_⟩
  cases x with
  | true =>
    rw [if_pos rfl]
    cases e
    exact k F1 H1 p1
  | false =>
    rw [if_neg (by decide)]
    exact ⟨F1, r1, p1.st, t, r', e, fun F2 H2 p2 => k F2 H2 (p1.trans p2)⟩
theorem rd_ifeE (hc : PT X c (RdC X.K B fc)) (ha : PE X a (RdE X.K B f)) (hb : PE X b (RdE X.K B g)) : PE X (.IfExp c a b pos) (RdE X.K B fun r => (fc r).bind fun t r1 => match t with
      | true => f r1
      | false => g r1) := by
  refine PE.imp (pe_ifExp hc ha hb) fun σ H Q ⟨F, r, s, t, r', e, k⟩ => ?_
  obtain ⟨x, r1, e1, e⟩ := bind_inv e
  refine ⟨F, r, s, x, r1, e1, fun F1 H1 p1 => ?_⟩
  cases x with
  | true =>
    rw [if_pos rfl]
    exact ⟨F1, r1, p1.st, t, r', e, fun z F2 H2 p2 t2 => k z F2 H2 (p1.trans p2) (t2.back p1.dom)⟩
  | false =>
    rw [if_neg (by decide)]
    exact ⟨F1, r1, p1.st, t, r', e, fun z F2 H2 p2 t2 => k z F2 H2 (p1.trans p2) (t2.back p1.dom)⟩
def tIfT (t ta tb : TT) : TT := fun σ H Q => t σ H fun c H1 => if c = true then ta σ H1 Q else tb σ H1 Q
theorem pt_ifExp {tc ta tb : TT} (hc : PT X c tc) (ha : PT X a ta) (hb : PT X b tb) : PT X (.IfExp c a b pos) (tIfT tc ta tb) := by
  refine ⟨fun pins s σ H Q I h => ?_⟩
  rw [arm_isTrue_IfExp]
  refine wpAny_bind (thn (hc.run pins s σ H _ I h) fun d s1 ⟨H1, I1, q1⟩ => ?_)
  cases d with
  | true => exact ha.run pins s1 σ H1 Q I1 q1
  | false => exact hb.run pins s1 σ H1 Q I1 q1
theorem rd_ifeC {ac bc : Env → Res Bool} (hc : PT X c (RdC X.K B fc)) (ha : PT X a (RdC X.K B ac)) (hb : PT X b (RdC X.K B bc)) : PT X (.IfExp c a b pos) (RdC X.K B fun r => (fc r).bind fun t r1 => match t with
      | true => ac r1
      | false => bc r1) := by
  refine PT.imp (pt_ifExp hc ha hb) fun σ H Q ⟨F, r, s, t, r', e, k⟩ => ?_
  obtain ⟨x, r1, e1, e⟩ := bind_inv e
  refine ⟨F, r, s, x, r1, e1, fun F1 H1 p1 => ?_⟩
  cases x with
  | true =>
    rw [if_pos rfl]
    exact ⟨F1, r1, p1.st, t, r', e, fun F2 H2 p2 => k F2 H2 (p1.trans p2)⟩
  | false =>
    rw [if_neg (by decide)]
    exact ⟨F1, r1, p1.st, t, r', e, fun F2 H2 p2 => k F2 H2 (p1.trans p2)⟩
/-! ### argument lists -/
theorem rd_nil : PA X [] (RdA X.K B fun r => .ok [] r) := PA.imp pa_nil fun σ H Q ⟨F, r, s, t, r', e, k⟩ => by
  cases e
  exact k [] F H (Post.refl s) .nil
theorem RpL.mono' {K : Fg} {F H : Hp} (s : Sub F H) {v : List V} {d : List D} (h : RpL K F v d) : RpL K H v d := h.mono s
theorem rd_cons {es : List Expr} {fa : Env → Res (List D)} (ha : PE X a (RdE X.K B f)) (hr : PA X es (RdA X.K B fa)) (hs : starEach (a :: es) X.env = (false, eval a X.env) :: starEach es X.env) :
    PA X (a :: es) (RdA X.K B fun r => (f r).bind fun x r1 => (solidR r1 x).bind fun v r2 => (fa r2).bind fun vs r3 => .ok (v :: vs) r3) := by
  refine PA.imp (pa_cons ha hr hs) fun σ H Q ⟨F, r, s, t, r', e, k⟩ => ?_
  obtain ⟨x, r1, e1, e⟩ := bind_inv e
  obtain ⟨v, r2, e2, e⟩ := bind_inv e
  obtain ⟨vs, r3, e3, e⟩ := bind_inv e
  cases e
  refine ⟨F, r, s, x, r1, e1, fun xv F1 H1 p1 t1 => ?_⟩
  obtain ⟨F2, p2, h2, m2⟩ := solid_post s p1 t1 (solidR_ok e2)
  refine ⟨F2, r2, p2.st, vs, r', e3, fun xs F3 H3 p3 h3 => ?_⟩
  exact k (xv :: xs) F3 H3 (p2.trans p3) (.cons (h2.mono p3.mono) h3)
theorem rd_tup {es : List Expr} {fa : Env → Res (List D)} {x1 : Nat} (ha : PA X es (RdA X.K B fa)) : PE X (.Tuple es x1 pos) (RdE X.K B fun r => (fa r).bind fun xs r1 => if xs.length ≤ SZ then .ok (.d (.tuple xs)) r1 else .stuck) := by
  refine PE.imp (pe_tup ha) fun σ H Q ⟨F, r, s, t, r', e, k⟩ => ?_
  obtain ⟨x, r1, e1, e⟩ := bind_inv e
  split at e
  · rename_i w
    cases e
    refine ⟨F, r, s, x, r', e1, fun xs F1 H1 p1 h1 => ⟨by rw [h1.length, ← szl]; exact w, fun p hp => ?_⟩⟩
    obtain ⟨F2, p2, t2⟩ := Out.post p1.st (.tup hp h1)
    exact k _ F2 _ (p1.trans p2) (t2.back p1.dom)
  · cases e
theorem rd_lst {es : List Expr} {fa : Env → Res (List D)} (ha : PA X es (RdA X.K B fa)) : PE X (.List es pos) (RdE X.K B fun r => (fa r).bind fun xs r1 => if xs.length ≤ SZ then .ok (.f (.list xs)) r1 else .stuck) := by
  refine PE.imp (pe_lst ha) fun σ H Q ⟨F, r, s, t, r', e, k⟩ => ?_
  obtain ⟨x, r1, e1, e⟩ := bind_inv e
  split at e
  · rename_i w
    cases e
    refine ⟨F, r, s, x, r', e1, fun xs F1 H1 p1 h1 => ⟨by rw [h1.length, ← szl]; exact w, fun p hp => ?_⟩⟩
    obtain ⟨F2, p2, t2⟩ := Out.post p1.st (.lst hp h1)
    exact k _ F2 _ (p1.trans p2) (t2.back p1.dom)
  · cases e
/-! ### slices -/
def RdO (K : Fg) (B : Bs) (g : Env → Res (Option D)) : TO := fun σ H Q => ∃ F r, StR K B F H σ r ∧ ∃ t r' o, g r = .ok t r' ∧ optI t = some o ∧ ∀ F' H', Post K B σ r F H r' F' H' → Q o H'
theorem PO.imp {eo : Option Expr} {t t' : TO} (h : PO X eo t) (w : ∀ σ H Q, t' σ H Q → t σ H Q) : PO X eo t' := ⟨fun pins s σ H Q I q => h.run pins s σ H Q I (w σ H Q q)⟩
theorem rd_no : PO X none (RdO X.K B fun r => .ok none r) := PO.imp po_none fun σ H Q ⟨F, r, s, t, r', o, e, eo, k⟩ => by
  cases e
  cases eo
  exact k F H (Post.refl s)
theorem rd_yes (ha : PE X a (RdE X.K B f)) : PO X (some a) (RdO X.K B fun r => (f r).bind fun x r1 => match deref r1 x with
      | some u => .ok (some u) r1
      | none => .stuck) := PO.imp (po_some ha) fun σ H Q ⟨F, r, s, t, r', o, e, eo, k⟩ => by
  obtain ⟨x, r1, e1, e⟩ := bind_inv e
  refine ⟨F, r, s, x, r1, e1, fun xv F1 H1 p1 t1 => ?_⟩
  split at e
  · rename_i u z
    cases e
    have hq := deref_rq p1.st t1 z
    unfold optI at eo
    split at eo
    · rename_i q
      cases q
    · rename_i i q
      cases q
      cases eo
      exact ⟨i, hq.int, k F1 H1 p1⟩
    · cases eo
  · cases e
theorem rd_slc {lo hi : Option Expr} {p2 : Pos} {fl fh : Env → Res (Option D)} (ha : PE X a (RdE X.K B f)) (hl : PO X lo (RdO X.K B fl)) (hh : PO X hi (RdO X.K B fh)) :
    PE X (.Subscript a (.Slice lo hi none p2) pos) (RdE X.K B fun r => (f r).bind fun x r1 => (fl r1).bind fun l r2 => (fh r2).bind fun h r3 =>
      match deref r3 x, optI l, optI h with
      | some u, some l', some h' => .of (slice l' h' u) r3
      | _, _, _ => .stuck) := by
  refine PE.imp (pe_slice sl_slc ha hl hh) fun σ H Q ⟨F, r, s, t, r', e, k⟩ => ?_
  obtain ⟨x, r1, e1, e⟩ := bind_inv e
  obtain ⟨l, r2, e2, e⟩ := bind_inv e
  obtain ⟨h, r3, e3, e⟩ := bind_inv e
  split at e
  · rename_i u l' h' z1 z2 z3
    obtain ⟨e4, rfl⟩ := of_inv e
    refine ⟨F, r, s, x, r1, e1, fun xv F1 H1 p1 t1 => ⟨F1, r1, p1.st, l, r2, l', e2, z2, fun F2 H2 p2 => ⟨F2, r2, p2.st, h, r3, h', e3, z3, fun F3 H3 p3 => ?_⟩⟩⟩
    have t3 := (t1.keep p2 (p1.ne s)).keep p3 fun a q => p1.ne s a (p2.own a q)
    refine ⟨F3, u, t, p3.st.sub, deref_rq p3.st t3 z1, e4, fun z H' o => ?_⟩
    obtain ⟨F4, p4, t4⟩ := o.post p3.st
    exact k z F4 H' (((p1.trans p2).trans p3).trans p4) (t4.back fun a q => p3.dom a (p2.dom a (p1.dom a q)))
  · cases e
end
end Ev

end
section
set_option linter.all false
set_option maxHeartbeats 2000000
namespace Ev
open PySem PySem.Spec PyProof.Rows L2
def plainE : Expr → Bool
  | .Starred _ _ => false
  | _ => true
theorem star_cons {e : Expr} {es : List Expr} {env : PySem.Env} (h : plainE e = true) : starEach (e :: es) env = (false, eval e env) :: starEach es env := by
  cases e <;> first | rfl | (simp [plainE] at h)
theorem star_any {env : PySem.Env} {pos : Pos} : ∀ {es : List Expr}, es.all plainE = true → (backTo pos (starEach es env)).any (·.1) = false
  | [], _ => rfl
  | e :: es, h => by
    rw [List.all_cons, Bool.and_eq_true] at h
    rw [star_cons h.1]
    have ih := star_any (env := env) (pos := pos) h.2
    show (false || (backTo pos (starEach es env)).any (·.1)) = false
    rw [ih]
    rfl
section
variable {X : Cx} {B : Bs} {e a b c : Expr} {pos : Pos} {f g h : Env → Res TV} {fc gc : Env → Res Bool}
/-- a test by a value that is a bool -/
theorem rd_tTest {gv : Env → Res TV} (hb : ∀ r t r', gv r = .ok t r' → ∃ bb : Bool, t = .d (.bool bb)) {σ : L2.St} {H : Hp} {Q : Bool → Hp → Prop} (q : RdC X.K B (tst gv).2 σ H Q) : RdE X.K B gv σ H (fun x H' => ∃ k, x = .bl k ∧ Q k H') := by
  obtain ⟨F, r, s, t, r', e, k⟩ := q
  simp only [tst] at e
  obtain ⟨x, r1, e1, e⟩ := bind_inv e
  refine ⟨F, r, s, x, r1, e1, fun z F' H' p tv => ?_⟩
  obtain ⟨bb, rfl⟩ := hb _ _ _ e1
  cases tv
  obtain ⟨e2, rfl⟩ := of_inv e
  cases e2
  exact ⟨_, rfl, k F' H' p⟩
/-! ### chains -/
abbrev chnG (o p : Co) (f g h : Env → Res TV) : Env → Res TV := fun r => (f r).bind fun x r1 => (g r1).bind fun y r2 =>
      match deref r2 x, deref r2 y with
      | some u, some v => match cop o u v with
        | some true => (h r2).bind fun z r3 => match deref r3 y, deref r3 z with
          | some v', some w => .of ((cop p v' w).map fun t => .d (.bool t)) r3
          | _, _ => .stuck
        | some false => .ok (.d (.bool false)) r2
        | none => .stuck
      | _, _ => .stuck
theorem chn_bool {o p : Co} (r : Env) (t : TV) (r' : Env) (e : chnG o p f g h r = .ok t r') : ∃ bb : Bool, t = .d (.bool bb) := by
  obtain ⟨x, r1, _, e⟩ := bind_inv e
  obtain ⟨y, r2, _, e⟩ := bind_inv e
  split at e
  · split at e
    · obtain ⟨z, r3, _, e⟩ := bind_inv e
      split at e
      · obtain ⟨e, _⟩ := of_inv e
        rw [Option.map_eq_some_iff] at e
        obtain ⟨_, _, e⟩ := e
        exact ⟨_, e.symm⟩
      · cases e
    · cases e
      exact ⟨_, rfl⟩
    · cases e
  · cases e
theorem chn_imp {o p : Co} {σ : L2.St} {H : Hp} {Q : VK} (q : RdE X.K B (chnG o p f g h) σ H Q) : tChain (rCo X.K o) (rCo X.K p) (RdE X.K B f) (RdE X.K B g) (RdE X.K B h) σ H Q := by
  obtain ⟨F, r, s, t, r', e, k⟩ := q
  obtain ⟨x, r1, e1, e⟩ := bind_inv e
  obtain ⟨y, r2, e2, e⟩ := bind_inv e
  refine ⟨F, r, s, x, r1, e1, fun xv F1 H1 p1 t1 => ⟨F1, r1, p1.st, y, r2, e2, fun yv F2 H2 p2 t2 => ?_⟩⟩
  have t1' := t1.keep p2 (p1.ne s)
  split at e
  · rename_i u v z1 z2
    have hx := deref_rq p2.st t1' z1
    have hy := deref_rq p2.st t2 z2
    split at e
    · rename_i ec
      obtain ⟨z, r3, e3, e⟩ := bind_inv e
      refine ⟨F2, u, v, true, p2.st.sub, hx, hy, ec, true, rfl, ?_⟩
      rw [if_pos rfl]
      refine ⟨F2, r2, p2.st, z, r3, e3, fun zv F3 H3 p3 t3 => ?_⟩
      have t2' := t2.keep p3 (p2.ne p1.st)
      split at e
      · rename_i v' w z3 z4
        obtain ⟨e5, rfl⟩ := of_inv e
        rw [Option.map_eq_some_iff] at e5
        obtain ⟨bb, e4, rfl⟩ := e5
        exact ⟨F3, v', w, bb, p3.st.sub, deref_rq p3.st t2' z3, deref_rq p3.st t3 z4, e4, k _ F3 H3 ((p1.trans p2).trans p3) (.bl _)⟩
      · cases e
    · rename_i ec
      cases e
      refine ⟨F2, u, v, false, p2.st.sub, hx, hy, ec, false, rfl, ?_⟩
      rw [if_neg (by decide)]
      exact k _ F2 H2 (p1.trans p2) (.bl _)
    · cases e
  · cases e
theorem rd_chn (hu : X.A.units + 65 < cLine) (o p : Co) (hm : lastMarks [opC o, opC p] [b, c] = false) (ha : PE X a (RdE X.K B f)) (hb : PE X b (RdE X.K B g)) (hc : PE X c (RdE X.K B h)) :
    PE X (.Compare a [opC o, opC p] [b, c] pos) (RdE X.K B (chnG o p f g h)) := PE.imp (pe_chain (or_cop hu o) (or_cop hu p) ha hb hc hm) fun _ _ _ q => chn_imp q
theorem rd_chnT (hu : X.A.units + 65 < cLine) (o p : Co) (hm : lastMarks [opC o, opC p] [b, c] = false) (ha : PE X a (RdE X.K B f)) (hb : PE X b (RdE X.K B g)) (hc : PE X c (RdE X.K B h)) :
    PT X (.Compare a [opC o, opC p] [b, c] pos) (RdC X.K B (tst (chnG o p f g h)).2) := PT.imp (pt_chain (or_cop hu o) (or_cop hu p) ha hb hc hm) fun _ _ _ q => chn_imp (rd_tTest chn_bool q)
/-! ### built-ins -/
theorem boot_ty (t : Ty) : bootBuiltins (tyN t) = some (.type (tyN t)) := by cases t <;> decide +kernel
theorem ty_dbg (t : Ty) : ((tyN t : Str) == ("__debug__" : Str)) = false := by cases t <;> decide
theorem ty_name (t : Ty) : (tyN t : Str) ≠ "__name__" := by cases t <;> decide
theorem rd_isi (hg : Gl X "isinstance") (hm : X.mg "isinstance" = none) {t : Ty} (hg2 : Gl X (tyN t)) (hm2 : X.mg (tyN t) = none) {p p2 : Pos} (hpl : plainE a = true) (ha : PE X a (RdE X.K B f)) :
    PE X (.Call (.Name "isinstance" p) [a, .Name (tyN t) p2] [] pos) (RdE X.K B fun r => (f r).bind fun x r1 => match deref r1 x with
      | some u => if notDict u = true then .ok (.d (.bool (isTy t u))) r1 else .stuck
      | none => .stuck) := by
  have pt : PE X (.Name (tyN t) p2) (tC (.ty (tyN t))) := pe_bltn hg2 hm2 (boot_ty t) rfl (ty_name t) (ty_dbg t)
  refine PE.imp (pe_callB call_isi hg hm boot_isinstance (pa_cons ha (pa_cons pt pa_nil (star_cons rfl)) (star_cons hpl)) (he := star_cons hpl) (hpl := star_any rfl)) fun σ H Q ⟨F, r, s, tv, r', e, k⟩ => ?_
  obtain ⟨x, r1, e1, e⟩ := bind_inv e
  refine ⟨F, r, s, x, r1, e1, fun xv F1 H1 p1 t1 => ?_⟩
  split at e
  · rename_i u z
    split at e
    · rename_i w
      cases e
      have hq := deref_rq p1.st t1 z
      exact ⟨xv, _, _, _, _, rfl, .ty _, tyx p1.st.sub hq w, kit_ty X.K u t w, k _ F1 H1 p1 (.bl _)⟩
    · cases e
  · cases e
def b1N : B1 → String
  | .abs => "abs"
  | .int => "int"
  | .len => "len"
  | .list => "list"
  | .tuple => "tuple"
  | .sum => "sum"
  | .all => "all"
  | .any => "any"
  | .max => "max"
  | .min => "min"
  | .sorted => "sorted"
  | .str => "str"
  | .repr => "repr"
def b1F : B1 → Bool
  | .int => false
  | .list => false
  | .tuple => false
  | .str => false
  | _ => true
theorem boot_b1 (b : B1) : bootBuiltins (b1N b) = some (b1V b) := by cases b <;> decide +kernel
theorem b1_name (b : B1) : (b1N b : Str) ≠ "__name__" := by cases b <;> decide
theorem b1_dbg (b : B1) : ((b1N b : Str) == ("__debug__" : Str)) = false := by cases b <;> decide
theorem b1_val (b : B1) : b1V b = if b1F b then .builtin (b1N b) else .type (b1N b) := by cases b <;> rfl
theorem pe_b1 (hc : X.calm = true) (b : B1) {p : Pos} (hg : Gl X (b1N b)) (hm : X.mg (b1N b) = none) (hpl : plainE a = true) {t : TA} (ha : PA X [a] t) : PE X (.Call (.Name (b1N b) p) [a] [] pos) (tCB (rB1 X.K b) t) := by
  have h1 := cr_b1 hc b
  have h2 := boot_b1 b
  rw [b1_val] at h1 h2
  cases q : b1F b with
  | true =>
    rw [q] at h1 h2
    exact pe_callB h1 hg hm h2 ha (b1_name b) (b1_dbg b) (star_cons hpl) (star_any rfl)
  | false =>
    rw [q] at h1 h2
    exact pe_callTy h1 hg hm h2 ha (b1_name b) (b1_dbg b) (star_cons hpl) (star_any rfl)
theorem rd_bl1 (hc : X.calm = true) (b : B1) {p : Pos} (hg : Gl X (b1N b)) (hm : X.mg (b1N b) = none) (hpl : plainE a = true) (ha : PE X a (RdE X.K B f)) :
    PE X (.Call (.Name (b1N b) p) [a] [] pos) (RdE X.K B fun r => (f r).bind fun x r1 => match deref r1 x with
      | some u => .of (b1 b u) r1
      | none => .stuck) := by
  refine PE.imp (pe_b1 hc b hg hm hpl (pa_cons ha pa_nil (star_cons hpl))) fun σ H Q ⟨F, r, s, tv, r', e, k⟩ => ?_
  obtain ⟨x, r1, e1, e⟩ := bind_inv e
  refine ⟨F, r, s, x, r1, e1, fun xv F1 H1 p1 t1 => ?_⟩
  split at e
  · rename_i u z
    obtain ⟨e2, rfl⟩ := of_inv e
    refine ⟨F1, xv, u, tv, rfl, p1.st.sub, deref_rq p1.st t1 z, e2, fun y H' o => ?_⟩
    obtain ⟨F2, p2, t2⟩ := o.post p1.st
    exact k y F2 H' (p1.trans p2) (t2.back p1.dom)
  · cases e
def b2N : B2 → String
  | .max => "max"
  | .min => "min"
theorem boot_b2 (b : B2) : bootBuiltins (b2N b) = some (.builtin (b2N b)) := by cases b <;> decide +kernel
theorem rd_bl2 (hcm : X.calm = true) (b : B2) {p : Pos} (hg : Gl X (b2N b)) (hm : X.mg (b2N b) = none) {a2 : Expr} (hp1 : plainE a = true) (hp2 : plainE a2 = true) (ha : PE X a (RdE X.K B f)) (hb : PE X a2 (RdE X.K B g)) :
    PE X (.Call (.Name (b2N b) p) [a, a2] [] pos) (RdE X.K B fun r => (f r).bind fun x r1 => (g r1).bind fun y r2 =>
      match deref r2 x, deref r2 y with
      | some u, some v => .of ((b2 b u v).map .d) r2
      | _, _ => .stuck) := by
  have h1 : CallR X (.builtin (b2N b)) (rB2 X.K b) := by
    have := cr_b2 hcm b
    cases b <;> exact this
  have hn : (b2N b : Str) ≠ "__name__" := by cases b <;> decide
  have hd : ((b2N b : Str) == ("__debug__" : Str)) = false := by cases b <;> decide
  refine PE.imp (pe_callB h1 hg hm (boot_b2 b) (pa_cons ha (pa_cons hb pa_nil (star_cons hp2)) (star_cons hp1)) hn hd (star_cons hp1) (star_any (by simp [hp2]))) fun σ H Q ⟨F, r, s, tv, r', e, k⟩ => ?_
  obtain ⟨x, r1, e1, e⟩ := bind_inv e
  obtain ⟨y, r2, e2, e⟩ := bind_inv e
  refine ⟨F, r, s, x, r1, e1, fun xv F1 H1 p1 t1 => ⟨F1, r1, p1.st, y, r2, e2, fun yv F2 H2 p2 t2 => ?_⟩⟩
  have t1' := t1.keep p2 (p1.ne s)
  split at e
  · rename_i u v z1 z2
    obtain ⟨e5, rfl⟩ := of_inv e
    rw [Option.map_eq_some_iff] at e5
    obtain ⟨w, e3, rfl⟩ := e5
    exact ⟨F2, xv, yv, u, v, w, rfl, p2.st.sub, deref_rq p2.st t1' z1, deref_rq p2.st t2 z2, e3, fun z hz => k z F2 H2 (p1.trans p2) hz⟩
  · cases e
end
end Ev

end
section
set_option linter.all false
set_option maxHeartbeats 2000000
/-! Calls of the text's own defs. -/
namespace Ev
open PySem PySem.Spec PyProof.Rows L2
/-- the arguments at a def's entry -/
inductive ArgsR (K : Fg) (F H : Hp) : List V → List Sl → Prop
  | nil : ArgsR K F H [] []
  | v {x : V} {d : D} {vs : List V} {ss : List Sl} : Rp K F x d → ArgsR K F H vs ss → ArgsR K F H (x :: vs) (.val d :: ss)
  | l {a : Addr} {o : HO} {d : D} {vs : List V} {ss : List Sl} : H a = some o → F a = none → ObR K F o d → ArgsR K F H vs ss → ArgsR K F H (.ref a :: vs) (.bor d :: ss)
/-- the lent objects' places, in order -/
def lentA : List V → List Sl → List Addr
  | .ref a :: vs, .bor _ :: ss => a :: lentA vs ss
  | _ :: vs, _ :: ss => lentA vs ss
  | _, _ => []
inductive OutsR (K : Fg) (F H : Hp) : List Addr → List D → Prop
  | nil : OutsR K F H [] []
  | cons {a : Addr} {o : HO} {d : D} {l : List Addr} {ds : List D} : H a = some o → F a = none → ObR K F o d → OutsR K F H l ds → OutsR K F H (a :: l) (d :: ds)
/-- what stands behind a call -/
structure CallP (K : Fg) (F H : Hp) (ls : List Addr) (nw : Bool) (v : D) (outs : List D) (x : V) (F' H' : Hp) : Prop where
  sub : Sub F' H'
  mono : Sub F F'
  frame : ∀ a o, H a = some o → a ∉ ls → H' a = some o
  dom : ∀ a, H a ≠ none → H' a ≠ none
  fr : ∀ a, F' a ≠ none → F a ≠ none ∨ H a = none
  value : TvR K H [] F' H' (if nw = true then .f v else .d v) x
  outs : OutsR K F' H' ls outs
/-- a def's promise: what the evaluator says -/
def spOf (K : Fg) (cf : List Sl → CR) : Sp := fun vs H Q E => ∃ F ss, Sub F H ∧ ArgsR K F H vs ss ∧ (lentA vs ss).Nodup ∧ ∃ fr v outs, cf ss = .ok fr v outs ∧ ∀ x F' H', CallP K F H (lentA vs ss) fr v outs x F' H' → Q x H'
/-- arguments as they are made -/
inductive ArL (K : Fg) (F : Hp) (σ : L2.St) : List V → List Ar → Prop
  | nil : ArL K F σ [] []
  | v {x : V} {d : D} {vs : List V} {as : List Ar} : Rp K F x d → ArL K F σ vs as → ArL K F σ (x :: vs) (.v d :: as)
  | l {x : V} {i : Nat} {vs : List V} {as : List Ar} : σ[i]? = some (some x) → ArL K F σ vs as → ArL K F σ (x :: vs) (.l i :: as)
theorem ArL.mono {K : Fg} {F G : Hp} {σ : L2.St} (s : Sub F G) : ∀ {vs : List V} {as : List Ar}, ArL K F σ vs as → ArL K G σ vs as
  | _, _, .nil => .nil
  | _, _, .v h r => .v (h.mono s) (r.mono s)
  | _, _, .l h r => .l h (r.mono s)
def adr (σ : L2.St) (i : Nat) : Option Addr := match σ[i]? with
  | some (some (.ref a)) => some a
  | _ => none
theorem adr_of {σ : L2.St} {i : Nat} {a : Addr} (h : σ[i]? = some (some (.ref a))) : adr σ i = some a := by
  unfold adr
  rw [h]
def RdR (K : Fg) (B : Bs) (g : Env → Res (List Ar)) : TA := fun σ H Q => ∃ F r, StR K B F H σ r ∧ ∃ t r', g r = .ok t r' ∧ ∀ xs F' H', Post K B σ r F H r' F' H' → ArL K F' σ xs t → Q xs H'
theorem mutAt_inv {r : Env} {i : Nat} {d : D} (h : mutAt r i = some d) : r[i]? = some (.own d) ∨ r[i]? = some (.bor d) := by
  unfold mutAt at h
  split at h
  · cases h; left; assumption
  · cases h; right; assumption
  · cases h
section
variable {K : Fg} {B : Bs} {F H : Hp} {σ : L2.St} {r : Env}
/-- the arguments, read in the caller's state -/
theorem args_of (s : StR K B F H σ r) : ∀ {vs : List V} {as : List Ar} {ss : List Sl}, ArL K F σ vs as → argsS r as = some ss → ArgsR K F H vs ss ∧ (∀ a, a ∈ lentA vs ss ↔ ∃ i, i ∈ lends as ∧ σ[i]? = some (some (.ref a))) ∧
      (lentA vs ss).map some = (lends as).map (adr σ) ∧ ∀ i ∈ lends as, ∃ d, r[i]? = some (.own d) ∨ r[i]? = some (.bor d)
  | _, _, _, .nil, e => by
    cases e
    exact ⟨.nil, fun a => by simp [lentA, lends], rfl, fun i h => nomatch h⟩
  | _, _, _, .v (x := x) (d := d) (vs := vs) (as := as) h rest, e => by
    unfold argsS at e
    rw [Option.bind_eq_some_iff] at e
    obtain ⟨s1, e1, e⟩ := e
    rw [Option.map_eq_some_iff] at e
    obtain ⟨ss, e2, rfl⟩ := e
    cases e1
    obtain ⟨h1, h2, h3, h4⟩ := args_of s rest e2
    have el : lentA (x :: vs) (.val d :: ss) = lentA vs ss := by cases x <;> rfl
    refine ⟨.v h h1, fun a => ?_, ?_, h4⟩
    · rw [el]; exact h2 a
    · rw [el]; exact h3
  | _, _, _, .l (x := x) (i := i) (vs := vs) (as := as) h rest, e => by
    unfold argsS at e
    rw [Option.bind_eq_some_iff] at e
    obtain ⟨s1, e1, e⟩ := e
    rw [Option.map_eq_some_iff] at e
    obtain ⟨ss, e2, rfl⟩ := e
    unfold argS at e1
    rw [Option.map_eq_some_iff] at e1
    obtain ⟨d, e1, rfl⟩ := e1
    have hr := mutAt_inv e1
    obtain ⟨a, o, q1, q2, q3, q4⟩ := s.obj i d hr
    rw [h] at q1
    cases q1
    obtain ⟨h1, h2, h3, h4⟩ := args_of s rest e2
    refine ⟨.l q2 q3 q4 h1, fun b => ?_, ?_, fun j hj => ?_⟩
    · show b ∈ a :: lentA vs ss ↔ ∃ j, j ∈ i :: lends as ∧ _
      rw [List.mem_cons, h2 b]
      constructor
      · rintro (rfl | ⟨j, hj, e⟩)
        · exact ⟨i, List.mem_cons_self, h⟩
        · exact ⟨j, List.mem_cons_of_mem _ hj, e⟩
      · rintro ⟨j, hj, e⟩
        rcases List.mem_cons.mp hj with rfl | hj
        · left
          rw [h] at e
          cases e
          rfl
        · exact .inr ⟨j, hj, e⟩
    · show some a :: (lentA vs ss).map some = adr σ i :: (lends as).map (adr σ)
      rw [h3, adr_of h]
    · rcases List.mem_cons.mp hj with rfl | hj
      · exact ⟨d, hr⟩
      · exact h4 j hj
theorem lent_nodup (s : StR K B F H σ r) {vs : List V} {as : List Ar} {ss : List Sl} (h : ArL K F σ vs as) (e : argsS r as = some ss) (n : (lends as).Nodup) : (lentA vs ss).Nodup := by
  obtain ⟨_, _, h3, h4⟩ := args_of s h e
  have inj : ∀ i ∈ lends as, ∀ j ∈ lends as, adr σ i = adr σ j → i = j := fun i hi j hj q => by
    obtain ⟨d, hd⟩ := h4 i hi
    obtain ⟨d2, hd2⟩ := h4 j hj
    obtain ⟨a, o, q1, _⟩ := s.obj i d hd
    obtain ⟨a2, o2, q2, _⟩ := s.obj j d2 hd2
    rw [adr_of q1, adr_of q2] at q
    have qa : a = a2 := Option.some.inj q
    subst qa
    exact s.inj i j d d2 a hd hd2 q1 q2
  have nm : ((lentA vs ss).map some).Nodup := by
    rw [h3]
    unfold List.Nodup
    rw [List.pairwise_map]
    exact List.Pairwise.imp_of_mem (fun hi hj ne q => ne (inj _ hi _ hj q)) n
  unfold List.Nodup at nm
  rw [List.pairwise_map] at nm
  exact nm.imp fun ne q => ne (congrArg some q)
end
theorem setAt_get {r : Env} {i j : Nat} {d : D} {sl : Sl} (h : (setAt r i d)[j]? = some sl) : (j = i ∧ ((r[i]? ≠ none ∧ ∃ c, r[i]? = some (.own c) ∧ sl = .own d) ∨ ∃ c, r[i]? = some (.bor c) ∧ sl = .bor d)) ∨ ((j ≠ i ∨ mutAt r i = none) ∧ r[j]? = some sl) := by
  unfold setAt at h
  split at h
  · rename_i c hc
    rcases getset h with ⟨q, e⟩ | ⟨q, e⟩
    · exact .inl ⟨q, .inl ⟨by rw [hc]; simp, c, hc, e⟩⟩
    · exact .inr ⟨.inl q, e⟩
  · rename_i c hc
    rcases getset h with ⟨q, e⟩ | ⟨q, e⟩
    · exact .inl ⟨q, .inr ⟨c, hc, e⟩⟩
    · exact .inr ⟨.inl q, e⟩
  · rename_i n1 n2
    refine .inr ⟨.inr ?_, h⟩
    unfold mutAt
    split
    · rename_i d' q; exact absurd q (n1 d')
    · rename_i d' q; exact absurd q (n2 d')
    · rfl
theorem setAt_len {r : Env} {i : Nat} {d : D} : (setAt r i d).length = r.length := by
  unfold setAt
  split <;> simp
/-- a slot's object is another one now -/
theorem set_st {K : Fg} {B : Bs} {F H : Hp} {σ : L2.St} {r : Env} {i : Nat} {c d : D} {a : Addr} {o : HO} (s : StR K B F H σ r) (hr : r[i]? = some (.own c) ∨ r[i]? = some (.bor c)) (hs : σ[i]? = some (some (.ref a))) (ho : ObR K F o d) :
    StR K B F (upd H a o) σ (setAt r i d) where
  sub := fun b u q => by
    obtain ⟨a', o', e1, e2, e3, _⟩ := s.obj i c hr
    rw [hs] at e1
    cases e1
    rw [upd_ne (ne_of_none q e3)]
    exact s.sub b u q
  dom := fun b q => by
    by_cases z : b = a
    · subst z; rw [upd_same]; simp
    · rw [upd_ne z]; exact s.dom b q
  len := by rw [setAt_len]; exact s.len
  val := fun j e q => by
    rcases setAt_get q with ⟨_, ⟨_, _, _, z⟩ | ⟨_, _, z⟩⟩ | ⟨_, q⟩
    · cases z
    · cases z
    · exact s.val j e q
  obj := fun j e q => by
    obtain ⟨a', o', e1, e2, e3, e4⟩ := s.obj i c hr
    rw [hs] at e1
    cases e1
    have key : (j = i ∧ e = d) ∨ (j ≠ i ∧ (r[j]? = some (.own e) ∨ r[j]? = some (.bor e))) := by
      have nm : mutAt r i ≠ none := by
        unfold mutAt
        rcases hr with z | z <;> rw [z] <;> simp
      rcases q with q | q
      · rcases setAt_get q with ⟨z, ⟨_, _, _, w⟩ | ⟨_, _, w⟩⟩ | ⟨z, q⟩
        · cases w; exact .inl ⟨z, rfl⟩
        · cases w
        · rcases z with z | z
          · exact .inr ⟨z, .inl q⟩
          · exact absurd z nm
      · rcases setAt_get q with ⟨z, ⟨_, _, _, w⟩ | ⟨_, _, w⟩⟩ | ⟨z, q⟩
        · cases w
        · cases w; exact .inl ⟨z, rfl⟩
        · rcases z with z | z
          · exact .inr ⟨z, .inr q⟩
          · exact absurd z nm
    rcases key with ⟨rfl, rfl⟩ | ⟨z, q⟩
    · exact ⟨a, o, hs, upd_same, e3, ho⟩
    · obtain ⟨b, u, y1, y2, y3, y4⟩ := s.obj j e q
      refine ⟨b, u, y1, ?_, y3, y4⟩
      rw [upd_ne (fun w => by subst w; exact z (s.inj j i e c b q hr y1 hs))]
      exact y2
  new := fun j e b q w => by
    rcases setAt_get q with ⟨z, ⟨_, c', hc, _⟩ | ⟨_, _, w'⟩⟩ | ⟨_, q⟩
    · subst z
      exact s.new j c' b hc w
    · cases w'
    · exact s.new j e b q w
  lnt := fun j e b q w => by
    rcases setAt_get q with ⟨z, ⟨_, c', hc, w'⟩ | ⟨c', hc, w'⟩⟩ | ⟨_, q⟩
    · cases w'
    · subst z
      exact s.lnt j c' b hc w
    · exact s.lnt j e b q w
  inj := fun j k e e' b q1 q2 w1 w2 => by
    have f : ∀ {j : Nat} {e : D}, ((setAt r i d)[j]? = some (.own e) ∨ (setAt r i d)[j]? = some (.bor e)) → ∃ e', (r[j]? = some (.own e') ∨ r[j]? = some (.bor e')) := fun q => by
      rcases q with q | q
      · rcases setAt_get q with ⟨z, ⟨_, c', hc, _⟩ | ⟨c', hc, _⟩⟩ | ⟨_, q⟩
        · subst z; exact ⟨c', .inl hc⟩
        · subst z; exact ⟨c', .inr hc⟩
        · exact ⟨_, .inl q⟩
      · rcases setAt_get q with ⟨z, ⟨_, c', hc, _⟩ | ⟨c', hc, _⟩⟩ | ⟨_, q⟩
        · subst z; exact ⟨c', .inl hc⟩
        · subst z; exact ⟨c', .inr hc⟩
        · exact ⟨_, .inr q⟩
    obtain ⟨u1, f1⟩ := f q1
    obtain ⟨u2, f2⟩ := f q2
    exact s.inj j k u1 u2 b f1 f2 w1 w2
theorem own_setAt {σ : L2.St} {r : Env} {i : Nat} {d : D} {a : Addr} (h : Own σ (setAt r i d) a) : Own σ r a := by
  obtain ⟨j, e, q, w⟩ := h
  rcases q with q | q
  · rcases setAt_get q with ⟨z, ⟨_, c', hc, _⟩ | ⟨c', hc, _⟩⟩ | ⟨_, q⟩
    · subst z; exact ⟨j, c', .inl hc, w⟩
    · subst z; exact ⟨j, c', .inr hc, w⟩
    · exact ⟨j, e, .inl q, w⟩
  · rcases setAt_get q with ⟨z, ⟨_, c', hc, _⟩ | ⟨c', hc, _⟩⟩ | ⟨_, q⟩
    · subst z; exact ⟨j, c', .inl hc, w⟩
    · subst z; exact ⟨j, c', .inr hc, w⟩
    · exact ⟨j, e, .inr q, w⟩
end Ev

end
section
set_option linter.all false
set_option maxHeartbeats 2000000
namespace Ev
open PySem PySem.Spec PyProof.Rows L2
def Mu (r : Env) (i : Nat) : Prop := ∃ d, r[i]? = some (.own d) ∨ r[i]? = some (.bor d)
theorem setAt_ne {r : Env} {i j : Nat} {d : D} (h : j ≠ i) : (setAt r i d)[j]? = r[j]? := by
  unfold setAt
  split
  · rw [List.getElem?_set_ne (fun z => h z.symm)]
  · rw [List.getElem?_set_ne (fun z => h z.symm)]
  · rfl
theorem setAt_own {r : Env} {i : Nat} {c d : D} (h : r[i]? = some (.own c)) : (setAt r i d)[i]? = some (.own d) := by
  unfold setAt
  rw [h]
  simp only
  rw [List.getElem?_set_self]
  have := List.getElem?_eq_some_iff.mp h
  exact this.1
theorem setAt_bor {r : Env} {i : Nat} {c d : D} (h : r[i]? = some (.bor c)) : (setAt r i d)[i]? = some (.bor d) := by
  unfold setAt
  rw [h]
  simp only
  rw [List.getElem?_set_self]
  have := List.getElem?_eq_some_iff.mp h
  exact this.1
theorem outsE_get : ∀ {L : List Nat} {outs : List D} {r r2 : Env}, outsE L outs r = some r2 → L.Nodup → (∀ i ∈ L, Mu r i) →
    L.length = outs.length ∧ r2.length = r.length ∧ (∀ j, j ∉ L → r2[j]? = r[j]?) ∧ ∀ (k : Nat) (i : Nat), L[k]? = some i → ∃ d, outs[k]? = some d ∧ (((∃ c, r[i]? = some (.own c)) ∧ r2[i]? = some (.own d)) ∨ ((∃ c, r[i]? = some (.bor c)) ∧ r2[i]? = some (.bor d)))
  | [], [], r, r2, e, _, _ => by
    cases e
    exact ⟨rfl, rfl, fun _ _ => rfl, fun k i h => by simp at h⟩
  | [], _ :: _, r, r2, e, _, _ => by cases e
  | i :: L, [], r, r2, e, _, _ => by cases e
  | i :: L, d :: ds, r, r2, e, n, m => by
    have n1 := List.nodup_cons.mp n
    obtain ⟨h1, h2, h3, h4⟩ := outsE_get (L := L) (outs := ds) (r := setAt r i d) e n1.2 (fun j hj => by
      have ne : j ≠ i := fun z => n1.1 (z ▸ hj)
      obtain ⟨c, hc⟩ := m j (List.mem_cons_of_mem _ hj)
      exact ⟨c, by rw [setAt_ne ne]; exact hc⟩)
    refine ⟨by rw [List.length_cons, List.length_cons, h1], by rw [h2, setAt_len], fun j hj => ?_, fun k j hk => ?_⟩
    · rw [List.mem_cons, not_or] at hj
      rw [h3 j hj.2, setAt_ne hj.1]
    · cases k with
      | zero =>
        simp only [List.getElem?_cons_zero, Option.some.injEq] at hk
        subst hk
        refine ⟨d, by simp, ?_⟩
        rw [h3 i n1.1]
        obtain ⟨c, hc⟩ := m i List.mem_cons_self
        rcases hc with hc | hc
        · exact .inl ⟨⟨c, hc⟩, setAt_own hc⟩
        · exact .inr ⟨⟨c, hc⟩, setAt_bor hc⟩
      | succ k =>
        simp only [List.getElem?_cons_succ] at hk
        have hm : j ∈ L := List.mem_of_getElem? hk
        have ne : j ≠ i := fun z => n1.1 (z ▸ hm)
        obtain ⟨d', q1, q2⟩ := h4 k j hk
        rw [setAt_ne ne] at q2
        exact ⟨d', by simpa using q1, q2⟩
theorem OutsR.get {K : Fg} {F H : Hp} : ∀ {ls : List Addr} {ds : List D}, OutsR K F H ls ds → ∀ (k : Nat) (a : Addr) (d : D), ls[k]? = some a → ds[k]? = some d → ∃ o, H a = some o ∧ F a = none ∧ ObR K F o d
  | _, _, .nil, k, a, d, h, _ => by simp at h
  | _, _, .cons h1 h2 h3 r, 0, a, d, h, e => by
    simp only [List.getElem?_cons_zero, Option.some.injEq] at h e
    subst h e
    exact ⟨_, h1, h2, h3⟩
  | _, _, .cons h1 h2 h3 r, k + 1, a, d, h, e => by
    simp only [List.getElem?_cons_succ] at h e
    exact r.get k a d h e
/-- the caller's state behind a call -/
theorem call_post {K : Fg} {B : Bs} {F H F' H' : Hp} {σ : L2.St} {r r2 : Env} {ls : List Addr} {L : List Nat} {nw : Bool} {v : D} {outs : List D} {x : V} (s : StR K B F H σ r) (hL : ls.map some = L.map (adr σ)) (n : L.Nodup) (m : ∀ i ∈ L, Mu r i)
    (p : CallP K F H ls nw v outs x F' H') (e : outsE L outs r = some r2) : Post K B σ r F H r2 F' H' ∧ TvR K H σ F' H' (if nw = true then .f v else .d v) x := by
  obtain ⟨h1, h2, h3, h4⟩ := outsE_get e n m
  have lsk : ∀ (k i : Nat), L[k]? = some i → ∃ a, ls[k]? = some a ∧ σ[i]? = some (some (.ref a)) := fun k i hk => by
    have q : (ls.map some)[k]? = (L.map (adr σ))[k]? := by rw [hL]
    rw [List.getElem?_map, List.getElem?_map, hk] at q
    obtain ⟨d, hd⟩ := m i (List.mem_of_getElem? hk)
    obtain ⟨a, o, q1, _⟩ := s.obj i d hd
    rw [Option.map_some, adr_of q1] at q
    rw [Option.map_eq_some_iff] at q
    obtain ⟨a', q2, q3⟩ := q
    cases q3
    exact ⟨a, q2, q1⟩
  have lsm : ∀ a ∈ ls, ∃ i ∈ L, σ[i]? = some (some (.ref a)) := fun a ha => by
    obtain ⟨k, hk⟩ := List.getElem?_of_mem ha
    have q : (ls.map some)[k]? = (L.map (adr σ))[k]? := by rw [hL]
    rw [List.getElem?_map, List.getElem?_map, hk, Option.map_some] at q
    have q := q.symm
    rw [Option.map_eq_some_iff] at q
    obtain ⟨i, q1, q2⟩ := q
    obtain ⟨a', q3, q4⟩ := lsk k i q1
    rw [hk] at q3
    cases q3
    exact ⟨i, List.mem_of_getElem? q1, q4⟩
  have back : ∀ {j : Nat} {d : D}, (r2[j]? = some (.own d) ∨ r2[j]? = some (.bor d)) → (j ∈ L ∧ ∃ k, L[k]? = some j ∧ outs[k]? = some d) ∨ (j ∉ L ∧ (r[j]? = some (.own d) ∨ r[j]? = some (.bor d))) := fun {j d} q => by
    by_cases hj : j ∈ L
    · obtain ⟨k, hk⟩ := List.getElem?_of_mem hj
      obtain ⟨d', q1, q2⟩ := h4 k j hk
      refine .inl ⟨hj, k, hk, ?_⟩
      rcases q2 with ⟨_, q2⟩ | ⟨_, q2⟩
      · rw [q2] at q
        rcases q with q | q
        · cases q; exact q1
        · cases q
      · rw [q2] at q
        rcases q with q | q
        · cases q
        · cases q; exact q1
    · rw [h3 j hj] at q
      exact .inr ⟨hj, q⟩
  have mu : ∀ {j : Nat} {d : D}, (r2[j]? = some (.own d) ∨ r2[j]? = some (.bor d)) → ∃ c, r[j]? = some (.own c) ∨ r[j]? = some (.bor c) := fun {j d} q => by
    rcases back q with ⟨hj, _⟩ | ⟨_, q⟩
    · exact m j hj
    · exact ⟨_, q⟩
  have own : ∀ a, Own σ r2 a → Own σ r a := fun a ⟨j, d, q, w⟩ => by
    obtain ⟨c, hc⟩ := mu q
    exact ⟨j, c, hc, w⟩
  have keepO : ∀ {j : Nat} {d : D}, j ∉ L → (r[j]? = some (.own d) ∨ r[j]? = some (.bor d)) → ∃ a o, σ[j]? = some (some (.ref a)) ∧ H' a = some o ∧ F' a = none ∧ ObR K F' o d := fun {j d} hj q => by
    obtain ⟨a, o, e1, e2, e3, e4⟩ := s.obj j d q
    have na : a ∉ ls := fun z => by
      obtain ⟨i, hi, w⟩ := lsm a z
      obtain ⟨c, hc⟩ := m i hi
      exact hj (s.inj j i d c a q hc e1 w ▸ hi)
    refine ⟨a, o, e1, p.frame a o e2 na, ?_, e4.mono p.mono⟩
    cases z : F' a with
    | none => rfl
    | some u =>
      rcases p.fr a (by rw [z]; simp) with w | w
      · exact absurd e3 w
      · rw [e2] at w; cases w
  refine ⟨⟨⟨p.sub, fun a q => p.dom a (s.dom a q), by rw [h2]; exact s.len, fun j d q => ?_, fun j d q => ?_, fun j d a q w => ?_, fun j d a q w => ?_, fun i j d e' a q1 q2 w1 w2 => ?_⟩, p.mono, fun a o q no => p.frame a o q fun z => no ?_, p.dom, fun a q => ?_, own⟩, ?_⟩
  · by_cases hj : j ∈ L
    · obtain ⟨k, hk⟩ := List.getElem?_of_mem hj
      obtain ⟨d', q1, q2⟩ := h4 k j hk
      rcases q2 with ⟨_, q2⟩ | ⟨_, q2⟩ <;> (rw [q2] at q; cases q)
    · rw [h3 j hj] at q
      obtain ⟨y, e1, e2⟩ := s.val j d q
      exact ⟨y, e1, e2.mono p.mono⟩
  · rcases back q with ⟨hj, k, hk, ho⟩ | ⟨hj, q⟩
    · obtain ⟨a, q1, q2⟩ := lsk k j hk
      obtain ⟨o, e1, e2, e3⟩ := p.outs.get k a d q1 ho
      exact ⟨a, o, q2, e1, e2, e3⟩
    · exact keepO hj q
  · by_cases hj : j ∈ L
    · obtain ⟨k, hk⟩ := List.getElem?_of_mem hj
      obtain ⟨d', q1, q2⟩ := h4 k j hk
      rcases q2 with ⟨⟨c, hc⟩, q2⟩ | ⟨_, q2⟩
      · exact s.new j c a hc w
      · rw [q2] at q; cases q
    · rw [h3 j hj] at q
      exact s.new j d a q w
  · by_cases hj : j ∈ L
    · obtain ⟨k, hk⟩ := List.getElem?_of_mem hj
      obtain ⟨d', q1, q2⟩ := h4 k j hk
      rcases q2 with ⟨_, q2⟩ | ⟨⟨c, hc⟩, q2⟩
      · rw [q2] at q; cases q
      · exact s.lnt j c a hc w
    · rw [h3 j hj] at q
      exact s.lnt j d a q w
  · obtain ⟨c1, f1⟩ := mu q1
    obtain ⟨c2, f2⟩ := mu q2
    exact s.inj i j c1 c2 a f1 f2 w1 w2
  · obtain ⟨i, hi, w⟩ := lsm a z
    obtain ⟨c, hc⟩ := m i hi
    exact ⟨i, c, hc, w⟩
  · rcases p.fr a q with w | w
    · exact .inl w
    · exact .inr (.inl w)
  · have tv := p.value
    cases nw with
    | true => exact tv
    | false => exact tv
section
variable {X : Cx} {B : Bs} {e a b c : Expr} {pos : Pos} {f g h : Env → Res TV}
theorem rr_nil : PA X [] (RdR X.K B fun r => .ok [] r) := PA.imp pa_nil fun σ H Q ⟨F, r, s, t, r', e, k⟩ => by
  cases e
  exact k [] F H (Post.refl s) .nil
theorem rr_cons {es : List Expr} {fa : Env → Res (List Ar)} (ha : PE X a (RdE X.K B f)) (hr : PA X es (RdR X.K B fa)) (hs : starEach (a :: es) X.env = (false, eval a X.env) :: starEach es X.env) :
    PA X (a :: es) (RdR X.K B fun r => (f r).bind fun x r1 => (solidR r1 x).bind fun v r2 => (fa r2).bind fun vs r3 => .ok (.v v :: vs) r3) := by
  refine PA.imp (pa_cons ha hr hs) fun σ H Q ⟨F, r, s, t, r', e, k⟩ => ?_
  obtain ⟨x, r1, e1, e⟩ := bind_inv e
  obtain ⟨v, r2, e2, e⟩ := bind_inv e
  obtain ⟨vs, r3, e3, e⟩ := bind_inv e
  cases e
  refine ⟨F, r, s, x, r1, e1, fun xv F1 H1 p1 t1 => ?_⟩
  obtain ⟨F2, p2, h2, m2⟩ := solid_post s p1 t1 (solidR_ok e2)
  refine ⟨F2, r2, p2.st, vs, r', e3, fun xs F3 H3 p3 h3 => ?_⟩
  exact k (xv :: xs) F3 H3 (p2.trans p3) (.v (h2.mono p3.mono) h3)
theorem rr_lend {es : List Expr} {fa : Env → Res (List Ar)} {i : Nat} {x : Str} {p : Pos} (hN : X.N[i]? = some x) (hv : Vis X.env.scope x) (hd : (x == ("__debug__" : Str)) = false) (hcd : (x == ("__classdict__" : Str)) = false)
    (hr : PA X es (RdR X.K B fa)) :
    PA X (.Name x p :: es) (RdR X.K B fun r => match mutAt r i with
    | some _ => (fa r).bind fun vs r1 => .ok (.l i :: vs) r1
    | none => .stuck) := by
  refine PA.imp (pa_cons (pe_var hN hv hd hcd) hr (star_cons rfl)) fun σ H Q ⟨F, r, s, t, r', e, k⟩ => ?_
  dsimp only at e
  split at e
  · rename_i d hm
    obtain ⟨vs, r3, e3, e⟩ := bind_inv e
    cases e
    obtain ⟨a, o, q1, _⟩ := s.obj i d (mutAt_inv hm)
    refine ⟨_, q1, F, r, s, vs, r', e3, fun xs F3 H3 p3 h3 => ?_⟩
    exact k (_ :: xs) F3 H3 p3 (.l q1 h3)
  · cases e
theorem rd_call {CX : CXT} {lv : Nat} {ad : Addr} {fd : FuncData} {ps : List Str} {cf : List Sl → CR} {x : Str} {p : Pos} {es : List Expr} {fa : Env → Res (List Ar)} (Fn : FnOk X.prog X.w X.K X.mg X.base CX lv ad fd ps (spOf X.K cf)) (hr : Room lv X.A)
    (hg : Gl X x) (hm : X.mg x = some (.ref ad)) (hk : PySem.W.keepIn X.K (.ref ad) = true) (hb : Binds X.K fd ps []) (hx : Passes CX X (fun _ _ _ => False)) (hpl : es.all plainE = true) (hdb : (x == ("__debug__" : Str)) = false) (ha : PA X es (RdR X.K B fa)) (h0 : es = [] → fa = fun r => .ok [] r) (call : Nat → List Sl → CR) (fi : Nat) (hc : call fi = cf) :
    PE X (.Call (.Name x p) es [] pos) (RdE X.K B fun r => (fa r).bind fun as r1 => doCall call fi as r1) := by
  have key : ∀ {σ : L2.St} {H : Hp} {Q : VK}, RdE X.K B (fun r => (fa r).bind fun as r1 => doCall call fi as r1) σ H Q → tCall (spOf X.K cf) [] (fun _ _ _ => False) (RdR X.K B fa) σ H Q := fun {σ H Q} ⟨F, r, s, t, r', e, k⟩ => by
    obtain ⟨as, r1, e1, e⟩ := bind_inv e
    refine ⟨F, r, s, as, r1, e1, fun xs F1 H1 p1 h1 => ?_⟩
    show spOf X.K cf (xs ++ []) H1 Q _
    rw [List.append_nil]
    unfold doCall at e
    split at e
    · cases e
    · rename_i ss hss
      split at e
      · rename_i nd
        rw [hc] at e
        split at e
        · rename_i nw v outs hcf
          split at e
          · rename_i r2 ho
            cases e
            obtain ⟨a1, a2, a3, a4⟩ := args_of p1.st h1 hss
            refine ⟨F1, ss, p1.st.sub, a1, lent_nodup p1.st h1 hss nd, nw, v, outs, hcf, fun y F2 H2 cp => ?_⟩
            obtain ⟨p2, t2⟩ := call_post p1.st a3 nd a4 cp ho
            exact k y F2 H2 (p1.trans p2) (t2.back p1.dom)
          · cases e
        · split at e <;> cases e
        · cases e
      · cases e
  cases es with
  | nil =>
    refine PE.imp (pe_call0 Fn hr hg hm hk hb .nil hx hdb) fun σ H Q q => ?_
    obtain ⟨F, r, s, t, r', e, k⟩ := key q
    rw [h0 rfl] at e
    cases e
    exact k [] F H (Post.refl s) .nil
  | cons e0 es =>
    rw [List.all_cons, Bool.and_eq_true] at hpl
    exact PE.imp (pe_call Fn hr hg hm hk hb .nil hx ha hdb (star_cons hpl.1) (star_any hpl.2)) fun σ H Q q => key q
end
end Ev

end
section
set_option linter.all false
set_option maxHeartbeats 2000000
namespace Ev
open PySem PySem.Spec PyProof.Rows L2
theorem RpL.getv {K : Fg} {F : Hp} : ∀ {v : List V} {d : List D}, RpL K F v d → ∀ (i : Nat) (y : V), v[i]? = some y → ∃ x, d[i]? = some x ∧ Rp K F y x
  | _, _, .nil, i, x, e => by simp at e
  | _, _, .cons h r, 0, x, e => by
    simp only [List.getElem?_cons_zero, Option.some.injEq] at e
    subst e
    exact ⟨_, by simp, h⟩
  | _, _, .cons h r, i + 1, x, e => by
    simp only [List.getElem?_cons_succ] at e
    obtain ⟨y, h1, h2⟩ := RpL.getv r i x e
    exact ⟨y, by simpa using h1, h2⟩
theorem wk_list {K : Fg} {F : Hp} {a : Addr} {xs : List V} {ds : List D} (h : F a = some (.lst xs)) (r : RpL K F xs ds) : WkD K F (Itl K a) ds where
  goes := fun i H hi sb => walk_list.goes i H (by rw [r.length]; exact hi) (SqL.of (sb _ _ h))
  stops := fun H sb => by
    have := (walk_list (K := K)).stops H (SqL.of (sb _ _ h))
    rw [r.length] at this
    exact this
  yields := fun i H x H' hi sb y => by
    obtain ⟨rfl, e⟩ := walk_list.yields i H x H' (by rw [r.length]; exact hi) (SqL.of (sb _ _ h)) y
    obtain ⟨d, e1, e2⟩ := r.getv i x e
    exact ⟨d, e1, .same e2⟩
theorem wk_tup {K : Fg} {F : Hp} {a : Addr} {xs : List V} {ds : List D} (h : SqT K F a xs) (r : RpL K F xs ds) : WkD K F (Itt K a) ds where
  goes := fun i H hi sb => walk_tup.goes i H (by rw [r.length]; exact hi) (sb.sqt h)
  stops := fun H sb => by
    have := (walk_tup (K := K)).stops H (sb.sqt h)
    rw [r.length] at this
    exact this
  yields := fun i H x H' hi sb y => by
    obtain ⟨rfl, e⟩ := walk_tup.yields i H x H' (by rw [r.length]; exact hi) (sb.sqt h) y
    obtain ⟨d, e1, e2⟩ := r.getv i x e
    exact ⟨d, e1, .same e2⟩
theorem wk_str {K : Fg} {F : Hp} {z : Str} : WkD K F (Its z) (z.cps.toList.map fun c => .str ⟨#[c]⟩) where
  goes := fun i H hi sb => walk_str.goes i H (by simpa using hi) trivial
  stops := fun H sb => by
    have := (walk_str (z := z)).stops H trivial
    simpa using this
  yields := fun i H x H' hi sb y => by
    obtain ⟨rfl, c, e, rfl⟩ := walk_str.yields i H x H' (by simpa using hi) trivial y
    exact ⟨.str ⟨#[c]⟩, by simp [e], .same (.str _)⟩
theorem rng_get : ∀ (n : Nat) (lo : Int) (i : Nat), i < n → (rng lo n)[i]? = some (.int (lo + i))
  | 0, _, _, h => absurd h (Nat.not_lt_zero _)
  | n + 1, lo, 0, _ => by simp [rng]
  | n + 1, lo, i + 1, h => by
    have := rng_get n (lo + 1) i (by omega)
    show (rng (lo + 1) n)[i]? = _
    rw [this]
    congr 2
    omega
theorem rng_len : ∀ (n : Nat) (lo : Int), (rng lo n).length = n
  | 0, _ => rfl
  | n + 1, lo => by
    show (rng (lo + 1) n).length + 1 = n + 1
    rw [rng_len]
theorem wk_rng {K : Fg} {F : Hp} {lo : Int} {n : Nat} : WkD K F (Itr lo n) (rng lo n) where
  goes := fun i H hi sb => walk_range.goes i H (by rw [rng_len] at hi; exact hi) trivial
  stops := fun H sb => by
    rw [rng_len]
    exact (walk_range (lo := lo) (n := n)).stops H trivial
  yields := fun i H x H' hi sb y => by
    rw [rng_len] at hi
    obtain ⟨rfl, rfl⟩ := walk_range.yields i H x H' hi trivial y
    exact ⟨_, rng_get n lo i hi, .same (.int _)⟩
theorem enumD_get : ∀ (xs : List D) (k i : Nat) (x : D), xs[i]? = some x → (enumD k xs)[i]? = some (.tuple [.int ((k + i : Nat) : Int), x])
  | [], k, i, x, h => by simp at h
  | y :: r, k, 0, x, h => by
    simp only [List.getElem?_cons_zero, Option.some.injEq] at h
    subst h
    simp [enumD]
  | y :: r, k, i + 1, x, h => by
    simp only [List.getElem?_cons_succ] at h
    have := enumD_get r (k + 1) i x h
    show (enumD (k + 1) r)[i]? = _
    rw [this]
    congr 4
    omega
theorem enumD_len : ∀ (xs : List D) (k : Nat), (enumD k xs).length = xs.length
  | [], _ => rfl
  | y :: r, k => by
    show (enumD (k + 1) r).length + 1 = r.length + 1
    rw [enumD_len]
theorem zipD_get : ∀ (xs ys : List D) (i : Nat) (x y : D), xs[i]? = some x → ys[i]? = some y → (zipD xs ys)[i]? = some (.tuple [x, y])
  | [], _, i, x, y, h, _ => by simp at h
  | _ :: _, [], i, x, y, _, h => by simp at h
  | a :: r, b :: q, 0, x, y, h, h2 => by
    simp only [List.getElem?_cons_zero, Option.some.injEq] at h h2
    subst h h2
    simp [zipD]
  | a :: r, b :: q, i + 1, x, y, h, h2 => by
    simp only [List.getElem?_cons_succ] at h h2
    exact zipD_get r q i x y h h2
theorem zipD_len : ∀ (xs ys : List D), (zipD xs ys).length = min xs.length ys.length
  | [], _ => by simp [zipD]
  | _ :: _, [] => by simp [zipD]
  | a :: r, b :: q => by
    show (zipD r q).length + 1 = _
    rw [zipD_len]
    simp only [List.length_cons]
    omega
theorem Rp.seqX {K : Fg} {F : Hp} {x : V} {v : D} {ds : List D} (h : Rp K F x v) (e : listOf v = some ds) : ∃ b a xs, x = .ref a ∧ RpL K F xs ds ∧ ∀ H, Sub F H → SqX K b H a xs := by
  unfold listOf at e
  split at e
  · cases e
    cases h with
    | lst h1 h2 => exact ⟨true, _, _, rfl, h2, fun H sb => SqL.of (sb _ _ h1)⟩
  · cases e
    cases h with
    | tup h1 h2 => exact ⟨false, _, _, rfl, h2, fun H sb => sb.sqt h1⟩
  · cases e
section
variable {X : Cx} {B : Bs} {e a b c tg : Expr} {pos : Pos} {f g h : Env → Res TV}
theorem ri_val (ha : PE X a (RdE X.K B f)) : PI X tg a (RdI X.K B fun r => (f r).bind fun x r1 => (solidR r1 x).bind fun v r2 => .of (itemsOf v) r2) := by
  refine PI.imp (PI.or (pi_list ha) (PI.or (pi_tup ha) (pi_str ha))) fun σ H R ⟨F, r, s, t, r', e, k⟩ => ?_
  obtain ⟨x, r1, e1, e⟩ := bind_inv e
  obtain ⟨v, r2, e2, e⟩ := bind_inv e
  obtain ⟨e, rfl⟩ := of_inv e
  have go : ∀ {xv : V} {F1 H1 : Hp}, Post X.K B σ r F H r1 F1 H1 → TvR X.K H σ F1 H1 x xv → ∃ F2, Post X.K B σ r F H r2 F2 H1 ∧ Rp X.K F2 xv v := fun {xv F1 H1} p1 t1 => by
    obtain ⟨F2, p2, h2, _⟩ := solid_post s p1 t1 (solidR_ok e2)
    exact ⟨F2, p2, h2⟩
  unfold itemsOf at e
  split at e
  · cases e
    refine .inl ⟨F, r, s, x, r1, e1, fun xv F1 H1 p1 t1 => ?_⟩
    obtain ⟨F2, p2, h2⟩ := go p1 t1
    cases h2 with
    | lst h3 h4 => exact ⟨_, rfl, ⟨_, SqL.of (p2.st.sub _ _ h3)⟩, k _ F2 H1 p2 (wk_list h3 h4)⟩
  · cases e
    refine .inr (.inl ⟨F, r, s, x, r1, e1, fun xv F1 H1 p1 t1 => ?_⟩)
    obtain ⟨F2, p2, h2⟩ := go p1 t1
    cases h2 with
    | tup h3 h4 => exact ⟨_, rfl, ⟨_, p2.st.sub.sqt h3⟩, k _ F2 H1 p2 (wk_tup h3 h4)⟩
  · cases e
    refine .inr (.inr ⟨F, r, s, x, r1, e1, fun xv F1 H1 p1 t1 => ?_⟩)
    obtain ⟨F2, p2, h2⟩ := go p1 t1
    cases h2 with
    | str z => exact ⟨_, rfl, k _ F2 H1 p2 wk_str⟩
  · cases e
theorem small62_ok {j : Int} (h : small62 j = true) : -(2 ^ 62) ≤ j ∧ j < 2 ^ 62 := by
  unfold small62 P62 at h
  rw [Bool.and_eq_true, decide_eq_true_eq, decide_eq_true_eq] at h
  have e : (2 : Int) ^ 62 = 4611686018427387904 := by decide
  rw [e]
  omega
theorem ri_rg1 {p : Pos} (hg : Gl X "range") (hm : X.mg "range" = none) (hpl : plainE a = true) (ha : PE X a (RdE X.K B f)) : PI X tg (.Call (.Name "range" p) [a] [] pos) (RdI X.K B fun r => (f r).bind fun x r1 => match deref r1 x with
      | some (.int j) => if small62 j then .ok (rng 0 j.toNat) r1 else .stuck
      | _ => .stuck) := by
  refine PI.imp (pi_range1 hg hm (pa_cons ha pa_nil (star_cons hpl)) (star_cons hpl)) fun σ H R ⟨F, r, s, t, r', e, k⟩ => ?_
  obtain ⟨x, r1, e1, e⟩ := bind_inv e
  refine ⟨F, r, s, x, r1, e1, fun xv F1 H1 p1 t1 => ?_⟩
  split at e
  · rename_i j z
    split at e
    · rename_i w
      cases e
      have h := small62_ok w
      exact ⟨j, by rw [(deref_rq p1.st t1 z).int], h.1, h.2, k _ F1 H1 p1 wk_rng⟩
    · cases e
  · cases e
theorem ri_rg2 {p : Pos} (hg : Gl X "range") (hm : X.mg "range" = none) (hp1 : plainE a = true) (hp2 : plainE b = true) (ha : PE X a (RdE X.K B f)) (hb : PE X b (RdE X.K B g)) :
    PI X tg (.Call (.Name "range" p) [a, b] [] pos) (RdI X.K B fun r => (f r).bind fun x r1 => (g r1).bind fun y r2 => match deref r2 x, deref r2 y with
      | some (.int i), some (.int j) => if small62 i && small62 j then .ok (rng i (j - i).toNat) r2 else .stuck
      | _, _ => .stuck) := by
  refine PI.imp (pi_range2 hg hm (pa_cons ha (pa_cons hb pa_nil (star_cons hp2)) (star_cons hp1)) (by rw [star_cons hp1, star_cons hp2]; rfl) (star_cons hp2)) fun σ H R ⟨F, r, s, t, r', e, k⟩ => ?_
  obtain ⟨x, r1, e1, e⟩ := bind_inv e
  obtain ⟨y, r2, e2, e⟩ := bind_inv e
  refine ⟨F, r, s, x, r1, e1, fun xv F1 H1 p1 t1 => ⟨F1, r1, p1.st, y, r2, e2, fun yv F2 H2 p2 t2 => ?_⟩⟩
  have t1' := t1.keep p2 (p1.ne s)
  split at e
  · rename_i i j z1 z2
    split at e
    · rename_i w
      cases e
      rw [Bool.and_eq_true] at w
      have h1 := small62_ok w.1
      have h2 := small62_ok w.2
      exact ⟨i, j, by rw [(deref_rq p2.st t1' z1).int, (deref_rq p2.st t2 z2).int], ⟨h1.1, h1.2, h2.1, h2.2⟩, k _ F2 H2 (p1.trans p2) wk_rng⟩
    · cases e
  · cases e
theorem ri_enm {p tpos : Pos} {elts : List Expr} {kk : Nat} (hg : Gl X "enumerate") (hm : X.mg "enumerate" = none) (hpl : plainE a = true) (ha : PE X a (RdE X.K B f)) :
    PI X (.Tuple elts kk tpos) (.Call (.Name "enumerate" p) [a] [] pos) (RdI X.K B fun r => (f r).bind fun x r1 => (solidR r1 x).bind fun v r2 => match listOf v with
      | some xs => .ok (enumD 0 xs) r2
      | none => .stuck) := by
  refine PI.imp (pi_enumX hg hm (pa_cons ha pa_nil (star_cons hpl)) (star_cons hpl)) fun σ H R ⟨F, r, s, t, r', e, k⟩ => ?_
  obtain ⟨x, r1, e1, e⟩ := bind_inv e
  obtain ⟨v, r2, e2, e⟩ := bind_inv e
  refine ⟨F, r, s, x, r1, e1, fun xv F1 H1 p1 t1 => ?_⟩
  obtain ⟨F2, p2, h2, _⟩ := solid_post s p1 t1 (solidR_ok e2)
  split at e
  · rename_i ds z
    cases e
    obtain ⟨bb, ad, xs, rfl, rl, hS⟩ := h2.seqX z
    refine ⟨bb, ad, xs, rfl, hS H1 p2.st.sub, k _ F2 H1 p2 ⟨fun i H hi sb => ⟨hS H sb, ?_⟩, fun H sb => ⟨hS H sb, ?_⟩, fun i H y H' hi sb q => ?_⟩⟩
    · rw [enumD_len] at hi
      rw [rl.length]; exact hi
    · rw [enumD_len, rl.length]
    · obtain ⟨T, x', y', rfl, hT, rfl, rfl, hy⟩ := q
      obtain ⟨d, e3, e4⟩ := rl.getv i y' hy
      refine ⟨_, enumD_get ds 0 i d e3, .tup hT (.cons ?_ (.cons e4 .nil))⟩
      have z : ((0 + i : Nat) : Int) = ((i : Nat) : Int) := by omega
      rw [z]
      exact .int _
  · cases e
theorem ri_zip {p tpos : Pos} {elts : List Expr} {kk : Nat} (hg : Gl X "zip") (hm : X.mg "zip" = none) (hp1 : plainE a = true) (hp2 : plainE b = true) (ha : PE X a (RdE X.K B f)) (hb : PE X b (RdE X.K B g)) :
    PI X (.Tuple elts kk tpos) (.Call (.Name "zip" p) [a, b] [] pos) (RdI X.K B fun r => (f r).bind fun x r1 => (solidR r1 x).bind fun v r2 => (g r2).bind fun y r3 => (solidR r3 y).bind fun w r4 =>
      match listOf v, listOf w with
      | some xs, some ys => .ok (zipD xs ys) r4
      | _, _ => .stuck) := by
  refine PI.imp (pi_zipX hg hm (pa_cons ha (pa_cons hb pa_nil (star_cons hp2)) (star_cons hp1)) (star_cons hp1) (star_any (by simp [hp2]))) fun σ H R ⟨F, r, s, t, r', e, k⟩ => ?_
  obtain ⟨x, r1, e1, e⟩ := bind_inv e
  obtain ⟨v, r2, e2, e⟩ := bind_inv e
  obtain ⟨y, r3, e3, e⟩ := bind_inv e
  obtain ⟨w, r4, e4, e⟩ := bind_inv e
  refine ⟨F, r, s, x, r1, e1, fun xv F1 H1 p1 t1 => ?_⟩
  obtain ⟨F2, p2, h2, _⟩ := solid_post s p1 t1 (solidR_ok e2)
  refine ⟨F2, r2, p2.st, y, r3, e3, fun yv F3 H3 p3 t3 => ?_⟩
  obtain ⟨F4, p4, h4, _⟩ := solid_post p2.st p3 t3 (solidR_ok e4)
  split at e
  · rename_i ds es z1 z2
    cases e
    obtain ⟨b1, a1, xs, rfl, rl1, hS1⟩ := (h2.mono p4.mono).seqX z1
    obtain ⟨b2, a2, ys, rfl, rl2, hS2⟩ := h4.seqX z2
    refine ⟨b1, b2, a1, a2, xs, ys, rfl, hS1 _ p4.st.sub, hS2 _ p4.st.sub, k _ F4 H3 (p2.trans p4) ⟨fun i H hi sb => ⟨⟨hS1 H sb, hS2 H sb⟩, ?_⟩, fun H sb => ⟨⟨hS1 H sb, hS2 H sb⟩, ?_⟩, fun i H q H' hi sb q2 => ?_⟩⟩
    · rw [zipD_len] at hi
      rw [rl1.length, rl2.length]; exact hi
    · rw [zipD_len, rl1.length, rl2.length]
    · obtain ⟨T, x', y', rfl, hT, rfl, hx, hy⟩ := q2
      obtain ⟨d1, q3, q4⟩ := rl1.getv i x' hx
      obtain ⟨d2, q5, q6⟩ := rl2.getv i y' hy
      exact ⟨_, zipD_get ds es i d1 d2 q3 q5, .tup hT (.cons q4 (.cons q6 .nil))⟩
  · cases e
end
end Ev

end
section
set_option linter.all false
set_option maxHeartbeats 2000000
/-! Stores to names, alone or in tuples. -/
namespace Ev
open PySem PySem.Spec PyProof.Rows L2
theorem set_same {α : Type} {l : List α} {i : Nat} {x : α} {s : α} (h : l[i]? = some s) : (l.set i x)[i]? = some x := by
  rw [List.getElem?_set_self]
  exact (List.getElem?_eq_some_iff.mp h).1
section
variable {K : Fg} {B : Bs} {F H : Hp} {σ : L2.St} {r : Env}
theorem own_sub {i : Nat} {v : V} {d : D} {a : Addr} (h : Own (σ.set i (some v)) (r.set i (.val d)) a) : Own σ r a := by
  obtain ⟨j, c, q, w⟩ := h
  have ne : j ≠ i ∧ (r[j]? = some (.own c) ∨ r[j]? = some (.bor c)) := by
    rcases q with q | q
    · rcases getset q with ⟨_, z⟩ | ⟨z, q⟩
      · cases z
      · exact ⟨z, .inl q⟩
    · rcases getset q with ⟨_, z⟩ | ⟨z, q⟩
      · cases z
      · exact ⟨z, .inr q⟩
  rw [List.getElem?_set_ne (fun z => ne.1 z.symm)] at w
  exact ⟨j, c, ne.2, w⟩
theorem asn_val {i : Nat} {v : V} {d : D} {s : Sl} (st : StR K B F H σ r) (hv : Rp K F v d) (hi : r[i]? = some s) : StR K B F H (σ.set i (some v)) (r.set i (.val d)) := by
  have hs : ∃ y, σ[i]? = some y := by
    have h1 := (List.getElem?_eq_some_iff.mp hi).1
    rw [← st.len] at h1
    exact ⟨σ[i], by simp [h1]⟩
  obtain ⟨y, hs⟩ := hs
  have mu : ∀ {j : Nat} {c : D}, ((r.set i (.val d))[j]? = some (.own c) ∨ (r.set i (.val d))[j]? = some (.bor c)) → j ≠ i ∧ (r[j]? = some (.own c) ∨ r[j]? = some (.bor c)) := fun {j c} q => by
    rcases q with q | q
    · rcases getset q with ⟨_, z⟩ | ⟨z, q⟩
      · cases z
      · exact ⟨z, .inl q⟩
    · rcases getset q with ⟨_, z⟩ | ⟨z, q⟩
      · cases z
      · exact ⟨z, .inr q⟩
  have sne : ∀ {j : Nat}, j ≠ i → (σ.set i (some v))[j]? = σ[j]? := fun {j} z => List.getElem?_set_ne (fun q => z q.symm)
  refine ⟨st.sub, st.dom, by rw [List.length_set, List.length_set, st.len], fun j c q => ?_, fun j c q => ?_, fun j c a q w => ?_, fun j c a q w => ?_, fun j k c c' a q1 q2 w1 w2 => ?_⟩
  · rcases getset q with ⟨z, z2⟩ | ⟨z, q⟩
    · subst z; cases z2
      exact ⟨v, set_same hs, hv⟩
    · rw [sne z]; exact st.val j c q
  · obtain ⟨z, q⟩ := mu q
    rw [sne z]; exact st.obj j c q
  · obtain ⟨z, q'⟩ := mu (.inl q)
    rw [sne z] at w
    rcases q' with q' | q'
    · exact st.new j c a q' w
    · rcases getset q with ⟨z2, _⟩ | ⟨_, q⟩
      · exact absurd z2 z
      · rw [q'] at q; cases q
  · rcases getset q with ⟨_, z⟩ | ⟨z, q⟩
    · cases z
    · rw [sne z] at w
      exact st.lnt j c a q w
  · obtain ⟨z1, q1⟩ := mu q1
    obtain ⟨z2, q2⟩ := mu q2
    rw [sne z1] at w1
    rw [sne z2] at w2
    exact st.inj j k c c' a q1 q2 w1 w2
theorem asn_own {i : Nat} {p : Addr} {o : HO} {d : D} {s : Sl} (st : StR K B F H σ r) (e1 : H p = some o) (e2 : F p = none) (e3 : ObR K F o d) (no : ¬ Own σ r p) (nb : B.h p = none) (hi : r[i]? = some s) :
    StR K B F H (σ.set i (some (.ref p))) (r.set i (.own d)) ∧ ∀ a, Own (σ.set i (some (.ref p))) (r.set i (.own d)) a → Own σ r a ∨ a = p := by
  have hs : ∃ y, σ[i]? = some y := by
    have h1 := (List.getElem?_eq_some_iff.mp hi).1
    rw [← st.len] at h1
    exact ⟨σ[i], by simp [h1]⟩
  obtain ⟨y, hs⟩ := hs
  have sne : ∀ {j : Nat}, j ≠ i → (σ.set i (some (V.ref p)))[j]? = σ[j]? := fun {j} z => List.getElem?_set_ne (fun q => z q.symm)
  have ss : (σ.set i (some (V.ref p)))[i]? = some (some (.ref p)) := set_same hs
  have mu : ∀ {j : Nat} {c : D}, ((r.set i (.own d))[j]? = some (.own c) ∨ (r.set i (.own d))[j]? = some (.bor c)) → (j = i ∧ c = d) ∨ (j ≠ i ∧ (r[j]? = some (.own c) ∨ r[j]? = some (.bor c))) := fun {j c} q => by
    rcases q with q | q
    · rcases getset q with ⟨z, z2⟩ | ⟨z, q⟩
      · cases z2; exact .inl ⟨z, rfl⟩
      · exact .inr ⟨z, .inl q⟩
    · rcases getset q with ⟨_, z⟩ | ⟨z, q⟩
      · cases z
      · exact .inr ⟨z, .inr q⟩
  have pn : ∀ {j : Nat} {c : D}, (r[j]? = some (.own c) ∨ r[j]? = some (.bor c)) → σ[j]? ≠ some (some (.ref p)) := fun {j c} q w => no ⟨j, c, q, w⟩
  refine ⟨⟨st.sub, st.dom, by rw [List.length_set, List.length_set, st.len], fun j c q => ?_, fun j c q => ?_, fun j c a q w => ?_, fun j c a q w => ?_, fun j k c c' a q1 q2 w1 w2 => ?_⟩, fun a ⟨j, c, q, w⟩ => ?_⟩
  · rcases getset q with ⟨z, z2⟩ | ⟨z, q⟩
    · cases z2
    · rw [sne z]; exact st.val j c q
  · rcases mu q with ⟨rfl, rfl⟩ | ⟨z, q⟩
    · exact ⟨p, o, ss, e1, e2, e3⟩
    · rw [sne z]; exact st.obj j c q
  · rcases mu (.inl q) with ⟨rfl, rfl⟩ | ⟨z, q'⟩
    · rw [ss] at w; cases w; exact nb
    · rw [sne z] at w
      rcases getset q with ⟨z2, _⟩ | ⟨_, q⟩
      · exact absurd z2 z
      · exact st.new j c a q w
  · rcases getset q with ⟨_, z⟩ | ⟨z, q⟩
    · cases z
    · rw [sne z] at w
      exact st.lnt j c a q w
  · rcases mu q1 with ⟨rfl, rfl⟩ | ⟨z1, q1⟩
    · rw [ss] at w1
      cases w1
      rcases mu q2 with ⟨rfl, _⟩ | ⟨z2, q2⟩
      · rfl
      · rw [sne z2] at w2; exact absurd w2 (pn q2)
    · rw [sne z1] at w1
      rcases mu q2 with ⟨rfl, _⟩ | ⟨z2, q2⟩
      · rw [ss] at w2
        cases w2
        rename_i q1' _
        exact absurd w1 (pn q1')
      · rw [sne z2] at w2
        exact st.inj j k c c' a q1 q2 w1 w2
  · rcases mu q with ⟨rfl, rfl⟩ | ⟨z, q⟩
    · rw [ss] at w; cases w; exact .inr rfl
    · rw [sne z] at w; exact .inl ⟨j, c, q, w⟩
end
mutual
def slotsT : IT → List Nat
  | .n i _ => [i]
  | .t l => slotsL l
def slotsL : List IT → List Nat
  | [] => []
  | t :: ts => slotsT t ++ slotsL ts
end
/-- behind stores of values that stay: what else was in the slots is there still -/
structure AsnP (K : Fg) (B : Bs) (F H : Hp) (sl : List Nat) (σ : L2.St) (r : Env) (σ' : L2.St) (r' : Env) : Prop where
  st : StR K B F H σ' r'
  own : ∀ a, Own σ' r' a → Own σ r a
  oth : ∀ (j : Nat), j ∉ sl → σ'[j]? = σ[j]? ∧ r'[j]? = r[j]?
  bor : ∀ (j : Nat) (d : D), r[j]? = some (.bor d) → r'[j]? = some (.bor d) ∧ σ'[j]? = σ[j]?
  ren : ∀ (j : Nat) (d : D), r'[j]? = some (.bor d) → r[j]? = some (.bor d)
  len : σ'.length = σ.length
theorem AsnP.trans {K : Fg} {B : Bs} {F H : Hp} {l m : List Nat} {σ σ1 σ2 : L2.St} {r r1 r2 : Env} (a : AsnP K B F H l σ r σ1 r1) (b : AsnP K B F H m σ1 r1 σ2 r2) : AsnP K B F H (l ++ m) σ r σ2 r2 where
  st := b.st
  own := fun c h => a.own c (b.own c h)
  oth := fun j h => by
    rw [List.mem_append, not_or] at h
    obtain ⟨h1, h2⟩ := a.oth j h.1
    obtain ⟨h3, h4⟩ := b.oth j h.2
    exact ⟨h3.trans h1, h4.trans h2⟩
  bor := fun j d h => by
    obtain ⟨h1, h2⟩ := a.bor j d h
    obtain ⟨h3, h4⟩ := b.bor j d h1
    exact ⟨h3, h4.trans h2⟩
  ren := fun j d h => a.ren j d (b.ren j d h)
  len := b.len.trans a.len
def RdG (K : Fg) (B : Bs) (t : IT) : TG := fun v σ H Q => ∃ F r d, StR K B F H σ r ∧ Rp K F v d ∧ ∃ r', asn t (.d d) r = .ok () r' ∧ ∀ σ', AsnP K B F H (slotsT t) σ r σ' r' → Q σ' H
def RdGs (K : Fg) (B : Bs) (t : List IT) : TGs := fun vs σ H Q => ∃ F r ds, StR K B F H σ r ∧ RpL K F vs ds ∧ ∃ r', asnL t ds r = .ok () r' ∧ ∀ σ', AsnP K B F H (slotsL t) σ r σ' r' → Q σ' H
theorem asn1_val {K : Fg} {B : Bs} {F H : Hp} {σ : L2.St} {r r' : Env} {i : Nat} {v : V} {d : D} (st : StR K B F H σ r) (hv : Rp K F v d) (e : asn1 i false (.d d) r = .ok () r') : AsnP K B F H [i] σ r (σ.set i (some v)) r' := by
  unfold asn1 at e
  split at e
  · cases e
  · cases e
  · rename_i s nb hs
    rw [if_neg (by decide)] at e
    cases (show Res.ok () (r.set i (.val d)) = Res.ok () r' from e)
    refine ⟨asn_val st hv hs, fun a => own_sub, fun j h => ?_, fun j c h => ?_, fun j c h => ?_, List.length_set⟩
    · have z : j ≠ i := by simpa using h
      exact ⟨List.getElem?_set_ne (fun q => z q.symm), List.getElem?_set_ne (fun q => z q.symm)⟩
    · have z : j ≠ i := fun z => by subst z; rw [h] at hs; cases hs; exact nb c rfl
      exact ⟨by rw [List.getElem?_set_ne (fun q => z q.symm)]; exact h, List.getElem?_set_ne (fun q => z q.symm)⟩
    · rcases getset h with ⟨_, z⟩ | ⟨_, h⟩
      · cases z
      · exact h
section
variable {X : Cx} {B : Bs} {pos : Pos}
theorem rg_name {i : Nat} {x : Str} (hN : X.N.Nodup) (hi : X.N[i]? = some x) (hx : Loc X.env.scope x) (hf : X.fn x = true ∨ X.env.scope.names.lookup x = some .local) : PG X (.Name x pos) (RdG X.K B (.n i false)) := by
  refine PG.imp (pg_name hN hi hx hf) fun v σ H Q ⟨F, r, d, st, hv, r', e, k⟩ => ?_
  exact k _ (asn1_val st hv e)
theorem PG.weak {e : Expr} {t t' : TG} (h : PG X e t) (w : ∀ v σ H Q, t' v σ H Q → t v σ H Q) : PG X e t' := ⟨fun pins s σ H v u Q I r q => h.run pins s σ H v u Q I r (w v σ H Q q)⟩
theorem PGs.weak {e : List Expr} {t t' : TGs} (h : PGs X e t) (w : ∀ v σ H Q, t' v σ H Q → t v σ H Q) : PGs X e t' := ⟨fun pins s σ H v u Q I r q => h.run pins s σ H v u Q I r (w v σ H Q q)⟩
theorem AsnP.refl {K : Fg} {B : Bs} {F H : Hp} {σ : L2.St} {r : Env} (s : StR K B F H σ r) : AsnP K B F H [] σ r σ r := ⟨s, fun _ h => h, fun _ _ => ⟨rfl, rfl⟩, fun _ _ h => ⟨h, rfl⟩, fun _ _ h => h, rfl⟩
theorem rgs_nil : PGs X [] (RdGs X.K B []) := by
  refine PGs.weak pgs_nil fun vs σ H Q ⟨F, r, ds, st, rl, r', e, k⟩ => ?_
  cases rl with
  | nil =>
    cases (show Res.ok () r = Res.ok () r' from e)
    exact ⟨rfl, k _ (AsnP.refl st)⟩
  | cons h q => cases (show (Res.stuck : Res Unit) = Res.ok () r' from e)
theorem each_cons {e : Expr} {es : List Expr} {env : PySem.Env} (h : plainE e = true) : assignEach (e :: es) env = (false, assign e env) :: assignEach es env := by
  cases e <;> first | rfl | (simp [plainE] at h)
theorem each_len {env : PySem.Env} : ∀ {es : List Expr}, es.all plainE = true → (assignEach es env).length = es.length ∧ (assignEach es env).findIdx? (·.1) = none
  | [], _ => ⟨rfl, rfl⟩
  | e :: es, h => by
    rw [List.all_cons, Bool.and_eq_true] at h
    obtain ⟨h1, h2⟩ := each_len (env := env) h.2
    rw [each_cons h.1]
    refine ⟨by rw [List.length_cons, List.length_cons, h1], ?_⟩
    rw [List.findIdx?_cons]
    simp only [Bool.false_eq_true, if_false]
    rw [h2]
    rfl
theorem rgs_cons {e : Expr} {es : List Expr} {t : IT} {ts : List IT} (hp : plainE e = true) (h1 : PG X e (RdG X.K B t)) (h2 : PGs X es (RdGs X.K B ts)) : PGs X (e :: es) (RdGs X.K B (t :: ts)) := by
  refine PGs.weak (pgs_cons h1 h2 (by rw [each_cons hp]; rfl)) fun vs σ H Q ⟨F, r, ds, st, rl, r', e, k⟩ => ?_
  cases rl with
  | nil => cases (show (Res.stuck : Res Unit) = Res.ok () r' from e)
  | @cons v vs d ds hv rl =>
    obtain ⟨_, r1, e1, e2⟩ := bind_inv (show (asn t (.d d) r).bind (fun _ r' => asnL ts ds r') = Res.ok () r' from e)
    refine ⟨v, vs, rfl, F, r, d, st, hv, r1, e1, fun σ1 p1 => ⟨F, r1, ds, p1.st, rl, r', e2, fun σ2 p2 => ?_⟩⟩
    exact k σ2 (p1.trans p2)
theorem rg_tup {es : List Expr} {k : Nat} {ts : List IT} (hc : X.calm = true) (hp : es.all plainE = true) (hl : es.length = ts.length) (h : PGs X es (RdGs X.K B ts)) : PG X (.Tuple es k pos) (RdG X.K B (.t ts)) := by
  refine PG.weak (pg_tup hc h (each_len hp).1 (each_len hp).2) fun v σ H Q ⟨F, r, d, st, hv, r', e, k⟩ => ?_
  unfold asn at e
  split at e
  · rename_i xs q
    cases (show some d = some (PyData.tuple xs) from q)
    cases hv with
    | tup h1 h2 =>
      have hlen : xs.length = es.length := by
        have key : ∀ (ts : List IT) (xs : List D) (r r' : Env), asnL ts xs r = .ok () r' → xs.length = ts.length := fun ts => by
          induction ts with
          | nil => intro xs r r' e; cases xs with
            | nil => rfl
            | cons => cases (show (Res.stuck : Res Unit) = Res.ok () r' from e)
          | cons t ts ih => intro xs r r' e; cases xs with
            | nil => cases (show (Res.stuck : Res Unit) = Res.ok () r' from e)
            | cons x xs =>
              obtain ⟨_, r1, _, e2⟩ := bind_inv (show (asn t (.d x) r).bind (fun _ r' => asnL ts xs r') = Res.ok () r' from e)
              rw [List.length_cons, List.length_cons, ih xs r1 r' e2]
        rw [key ts xs r r' e, hl]
      exact ⟨_, _, rfl, st.sub.sqt h1, by rw [h2.length, hlen], F, r, xs, st, h2, r', e, k⟩
  · cases e
end
end Ev

end
section
set_option linter.all false
set_option maxHeartbeats 4000000
/-! List comprehensions. -/
namespace Ev
open PySem PySem.Spec PyProof.Rows L2
/-- what a piece of a run does to the heap: O the objects that it may change -/
structure Mv (O O' : Addr → Prop) (F H F' H' : Hp) : Prop where
  mono : Sub F F'
  frame : ∀ a o, H a = some o → ¬ O a → H' a = some o
  dom : ∀ a, H a ≠ none → H' a ≠ none
  fr : ∀ a, F' a ≠ none → F a ≠ none ∨ H a = none ∨ O a
  own : ∀ a, O' a → O a
theorem Mv.refl {O : Addr → Prop} {F H : Hp} : Mv O O F H F H := ⟨Sub.refl _, fun _ _ h _ => h, fun _ h => h, fun _ h => .inl h, fun _ h => h⟩
theorem Mv.less {O O' : Addr → Prop} {F H : Hp} (h : ∀ a, O' a → O a) : Mv O O' F H F H := ⟨Sub.refl _, fun _ _ h _ => h, fun _ h => h, fun _ h => .inl h, h⟩
theorem Mv.trans {O O1 O2 : Addr → Prop} {F H F1 H1 F2 H2 : Hp} (a : Mv O O1 F H F1 H1) (b : Mv O1 O2 F1 H1 F2 H2) : Mv O O2 F H F2 H2 where
  mono := a.mono.trans b.mono
  frame := fun c o h n => b.frame c o (a.frame c o h n) fun q => n (a.own c q)
  dom := fun c h => b.dom c (a.dom c h)
  fr := fun c h => by
    rcases b.fr c h with q | q | q
    · exact a.fr c q
    · exact .inr (.inl (Classical.byContradiction fun n => a.dom c n q))
    · exact .inr (.inr (a.own c q))
  own := fun c h => a.own c (b.own c h)
theorem Post.mv {K : Fg} {B : Bs} {σ : L2.St} {r r' : Env} {F H F' H' : Hp} (p : Post K B σ r F H r' F' H') : Mv (Own σ r) (Own σ r') F H F' H' := ⟨p.mono, p.frame, p.dom, p.fr, p.own⟩
theorem Mv.post {K : Fg} {B : Bs} {σ : L2.St} {r r' : Env} {F H F' H' : Hp} (m : Mv (Own σ r) (Own σ r') F H F' H') (s : StR K B F' H' σ r') : Post K B σ r F H r' F' H' := ⟨s, m.mono, m.frame, m.dom, m.fr, m.own⟩
theorem wipe_get (σ : L2.St) (j : Nat) : ∀ vs : List Nat, (wipe σ vs)[j]? = if j ∈ vs then σ[j]?.map (fun _ => none) else σ[j]?
  | [] => by simp [wipe]
  | v :: vs => by
    have ih := wipe_get σ j vs
    show ((wipe σ vs).set v none)[j]? = _
    by_cases e : v = j
    · subst e
      rw [if_pos List.mem_cons_self, List.getElem?_set]
      rw [if_pos rfl, wipe_length]
      by_cases h : v < σ.length
      · rw [if_pos h, List.getElem?_eq_getElem h]; rfl
      · rw [if_neg h, List.getElem?_eq_none (by omega)]; rfl
    · rw [List.getElem?_set_ne e, ih]
      by_cases h : j ∈ vs
      · rw [if_pos h, if_pos (List.mem_cons_of_mem _ h)]
      · rw [if_neg h, if_neg (by simp only [List.mem_cons, not_or]; exact ⟨fun z => e z.symm, h⟩)]
theorem wipeE_len (r : Env) : ∀ vs : List Nat, (wipeE vs r).length = r.length
  | [] => rfl
  | v :: vs => by
    show ((wipeE vs r).set v .un).length = _
    rw [List.length_set, wipeE_len r vs]
theorem wipeE_get (r : Env) (j : Nat) : ∀ vs : List Nat, (wipeE vs r)[j]? = if j ∈ vs then r[j]?.map (fun _ => .un) else r[j]?
  | [] => by simp [wipeE]
  | v :: vs => by
    have ih := wipeE_get r j vs
    show ((wipeE vs r).set v .un)[j]? = _
    by_cases e : v = j
    · subst e
      rw [if_pos List.mem_cons_self, List.getElem?_set]
      rw [if_pos rfl, wipeE_len]
      by_cases h : v < r.length
      · rw [if_pos h, List.getElem?_eq_getElem h]; rfl
      · rw [if_neg h, List.getElem?_eq_none (by omega)]; rfl
    · rw [List.getElem?_set_ne e, ih]
      by_cases h : j ∈ vs
      · rw [if_pos h, if_pos (List.mem_cons_of_mem _ h)]
      · rw [if_neg h, if_neg (by simp only [List.mem_cons, not_or]; exact ⟨fun z => e z.symm, h⟩)]
theorem backE_len (r0 r : Env) : ∀ vs : List Nat, (backE r0 vs r).length = r.length
  | [] => rfl
  | v :: vs => by
    show ((backE r0 vs r).set v _).length = _
    rw [List.length_set, backE_len r0 r vs]
theorem backE_get (r0 r : Env) (hl : r0.length = r.length) (j : Nat) : ∀ vs : List Nat, (backE r0 vs r)[j]? = if j ∈ vs then r0[j]? else r[j]?
  | [] => by simp [backE]
  | v :: vs => by
    have ih := backE_get r0 r hl j vs
    show ((backE r0 vs r).set v (r0.getD v .un))[j]? = _
    by_cases e : v = j
    · subst e
      rw [if_pos List.mem_cons_self, List.getElem?_set, if_pos rfl, backE_len, ← hl]
      by_cases h : v < r0.length
      · rw [if_pos h, List.getElem?_eq_getElem h]
        simp [h]
      · rw [if_neg h, List.getElem?_eq_none (by omega)]
    · rw [List.getElem?_set_ne e, ih]
      by_cases h : j ∈ vs
      · rw [if_pos h, if_pos (List.mem_cons_of_mem _ h)]
      · rw [if_neg h, if_neg (by simp only [List.mem_cons, not_or]; exact ⟨fun z => e z.symm, h⟩)]
theorem wipe_eq {σ σ2 : L2.St} {vs : List Nat} (hl : σ2.length = σ.length) (h : ∀ j, j ∉ vs → σ2[j]? = (wipe σ vs)[j]?) : wipe σ2 vs = wipe σ vs := by
  apply List.ext_getElem?
  intro j
  rw [wipe_get σ2, wipe_get σ]
  by_cases hj : j ∈ vs
  · rw [if_pos hj, if_pos hj]
    by_cases hb : j < σ.length
    · rw [List.getElem?_eq_getElem hb, List.getElem?_eq_getElem (by omega)]; rfl
    · rw [List.getElem?_eq_none (by omega), List.getElem?_eq_none (by omega)]
  · rw [if_neg hj, if_neg hj, h j hj, wipe_get, if_neg hj]
section
variable {K : Fg} {B : Bs} {F H : Hp} {σ : L2.St} {r : Env}
theorem wiped_mu {vs : List Nat} {j : Nat} {s : Sl} (h : (wipeE vs r)[j]? = some s) (hs : s ≠ .un) : j ∉ vs ∧ r[j]? = some s := by
  rw [wipeE_get] at h
  by_cases hj : j ∈ vs
  · rw [if_pos hj] at h
    rw [Option.map_eq_some_iff] at h
    obtain ⟨_, _, z⟩ := h
    exact absurd z.symm hs
  · rw [if_neg hj] at h
    exact ⟨hj, h⟩
theorem st_wipe (s : StR K B F H σ r) (vs : List Nat) : StR K B F H (wipe σ vs) (wipeE vs r) := by
  have sg : ∀ {j : Nat}, j ∉ vs → (wipe σ vs)[j]? = σ[j]? := fun {j} h => by rw [wipe_get, if_neg h]
  have mu : ∀ {j : Nat} {c : D}, ((wipeE vs r)[j]? = some (.own c) ∨ (wipeE vs r)[j]? = some (.bor c)) → j ∉ vs ∧ (r[j]? = some (.own c) ∨ r[j]? = some (.bor c)) := fun {j c} q => by
    rcases q with q | q
    · obtain ⟨a, b⟩ := wiped_mu q (by simp)
      exact ⟨a, .inl b⟩
    · obtain ⟨a, b⟩ := wiped_mu q (by simp)
      exact ⟨a, .inr b⟩
  refine ⟨s.sub, s.dom, by rw [wipe_length, wipeE_len, s.len], fun j d q => ?_, fun j d q => ?_, fun j d a q w => ?_, fun j d a q w => ?_, fun i j d e a q1 q2 w1 w2 => ?_⟩
  · obtain ⟨h1, h2⟩ := wiped_mu q (by simp)
    rw [sg h1]; exact s.val j d h2
  · obtain ⟨h1, h2⟩ := mu q
    rw [sg h1]; exact s.obj j d h2
  · obtain ⟨h1, h2⟩ := wiped_mu q (by simp)
    rw [sg h1] at w; exact s.new j d a h2 w
  · obtain ⟨h1, h2⟩ := wiped_mu q (by simp)
    rw [sg h1] at w; exact s.lnt j d a h2 w
  · obtain ⟨h1, h2⟩ := mu q1
    obtain ⟨h3, h4⟩ := mu q2
    rw [sg h1] at w1
    rw [sg h3] at w2
    exact s.inj i j d e a h2 h4 w1 w2
theorem own_wipe {vs : List Nat} {a : Addr} (h : Own (wipe σ vs) (wipeE vs r) a) : Own σ r a := by
  obtain ⟨j, d, q, w⟩ := h
  have mu : j ∉ vs ∧ (r[j]? = some (.own d) ∨ r[j]? = some (.bor d)) := by
    rcases q with q | q
    · obtain ⟨a, b⟩ := wiped_mu q (by simp)
      exact ⟨a, .inl b⟩
    · obtain ⟨a, b⟩ := wiped_mu q (by simp)
      exact ⟨a, .inr b⟩
  rw [wipe_get, if_neg mu.1] at w
  exact ⟨j, d, mu.2, w⟩
/-- the object at p, that nothing knows, is another one -/
theorem st_upd {p : Addr} {o : HO} (s : StR K B F H σ r) (e : F p = none) (no : ¬ Own σ r p) : StR K B F (upd H p o) σ r where
  sub := fun b u q => by
    rw [upd_ne (ne_of_none q e)]
    exact s.sub b u q
  dom := fun b q => by
    by_cases z : b = p
    · subst z; rw [upd_same]; simp
    · rw [upd_ne z]; exact s.dom b q
  len := s.len
  val := s.val
  obj := fun j d q => by
    obtain ⟨a, u, e1, e2, e3, e4⟩ := s.obj j d q
    refine ⟨a, u, e1, ?_, e3, e4⟩
    rw [upd_ne (fun z => no (by subst z; exact ⟨j, d, q, e1⟩))]
    exact e2
  new := s.new
  lnt := s.lnt
  inj := s.inj
/-- the slots of the block's own names are what they were -/
theorem unwipe {r1 r2 : Env} {F1 H1 F2 H2 : Hp} {vs : List Nat} (s1 : StR K B F1 H1 σ r1) (s2 : StR K B F2 H2 (wipe σ vs) (wipeE vs r2)) (m : Mv (Own (wipe σ vs) (wipeE vs r1)) (Own (wipe σ vs) (wipeE vs r2)) F1 H1 F2 H2) :
    StR K B F2 H2 σ (backE r1 vs r2) ∧ Mv (Own σ r1) (Own σ (backE r1 vs r2)) F1 H1 F2 H2 := by
  have hl : r1.length = r2.length := by
    have e1 := s1.len
    have e2 := s2.len
    rw [wipe_length, wipeE_len] at e2
    omega
  have sg : ∀ {j : Nat}, j ∉ vs → (wipe σ vs)[j]? = σ[j]? := fun {j} h => by rw [wipe_get, if_neg h]
  have wg : ∀ {j : Nat}, j ∉ vs → (wipeE vs r2)[j]? = r2[j]? := fun {j} h => by rw [wipeE_get, if_neg h]
  have wg1 : ∀ {j : Nat}, j ∉ vs → (wipeE vs r1)[j]? = r1[j]? := fun {j} h => by rw [wipeE_get, if_neg h]
  have bi : ∀ {j : Nat}, j ∈ vs → (backE r1 vs r2)[j]? = r1[j]? := fun {j} h => by rw [backE_get _ _ hl, if_pos h]
  have bo : ∀ {j : Nat}, j ∉ vs → (backE r1 vs r2)[j]? = r2[j]? := fun {j} h => by rw [backE_get _ _ hl, if_neg h]
  -- an own object of the later state, its slot not hidden, was an own object of the earlier one, its slot not hidden
  have was : ∀ {j : Nat} {d : D} {a : Addr}, j ∉ vs → (r2[j]? = some (.own d) ∨ r2[j]? = some (.bor d)) → σ[j]? = some (some (.ref a)) → ∃ i c, i ∉ vs ∧ (r1[i]? = some (.own c) ∨ r1[i]? = some (.bor c)) ∧ σ[i]? = some (some (.ref a)) := fun {j d a} hj q w => by
    obtain ⟨i, c, q1, w1⟩ := m.own a ⟨j, d, by rw [wg hj]; exact q, by rw [sg hj]; exact w⟩
    have mu : i ∉ vs ∧ (r1[i]? = some (.own c) ∨ r1[i]? = some (.bor c)) := by
      rcases q1 with q1 | q1
      · obtain ⟨a, b⟩ := wiped_mu q1 (by simp)
        exact ⟨a, .inl b⟩
      · obtain ⟨a, b⟩ := wiped_mu q1 (by simp)
        exact ⟨a, .inr b⟩
    rw [sg mu.1] at w1
    exact ⟨i, c, mu.1, mu.2, w1⟩
  have hid : ∀ {j : Nat} {d : D} {a : Addr}, j ∈ vs → (r1[j]? = some (.own d) ∨ r1[j]? = some (.bor d)) → σ[j]? = some (some (.ref a)) → ¬ Own (wipe σ vs) (wipeE vs r1) a := fun {j d a} hj q w z => by
    obtain ⟨i, c, q1, w1⟩ := z
    have mu : i ∉ vs ∧ (r1[i]? = some (.own c) ∨ r1[i]? = some (.bor c)) := by
      rcases q1 with q1 | q1
      · obtain ⟨a, b⟩ := wiped_mu q1 (by simp)
        exact ⟨a, .inl b⟩
      · obtain ⟨a, b⟩ := wiped_mu q1 (by simp)
        exact ⟨a, .inr b⟩
    rw [sg mu.1] at w1
    exact mu.1 (s1.inj i j c d a mu.2 q w1 w ▸ hj)
  refine ⟨⟨s2.sub, s2.dom, by rw [backE_len, ← hl]; exact s1.len, fun j d q => ?_, fun j d q => ?_, fun j d a q w => ?_, fun j d a q w => ?_, fun i j d e a q1 q2 w1 w2 => ?_⟩, m.mono, fun a o q no => m.frame a o q fun z => no (own_wipe z), m.dom, fun a q => ?_, fun a z => ?_⟩
  · by_cases hj : j ∈ vs
    · rw [bi hj] at q
      obtain ⟨x, e1, e2⟩ := s1.val j d q
      exact ⟨x, e1, e2.mono m.mono⟩
    · rw [bo hj] at q
      have := s2.val j d (by rw [wg hj]; exact q)
      rw [sg hj] at this
      exact this
  · by_cases hj : j ∈ vs
    · rw [bi hj] at q
      obtain ⟨a, o, e1, e2, e3, e4⟩ := s1.obj j d q
      have nw := hid hj q e1
      refine ⟨a, o, e1, m.frame a o e2 nw, ?_, e4.mono m.mono⟩
      cases z : F2 a with
      | none => rfl
      | some u =>
        rcases m.fr a (by rw [z]; simp) with w | w | w
        · exact absurd e3 w
        · rw [e2] at w; cases w
        · exact absurd w nw
    · rw [bo hj] at q
      have := s2.obj j d (by rw [wg hj]; exact q)
      rw [sg hj] at this
      exact this
  · by_cases hj : j ∈ vs
    · rw [bi hj] at q
      exact s1.new j d a q w
    · rw [bo hj] at q
      exact s2.new j d a (by rw [wg hj]; exact q) (by rw [sg hj]; exact w)
  · by_cases hj : j ∈ vs
    · rw [bi hj] at q
      exact s1.lnt j d a q w
    · rw [bo hj] at q
      exact s2.lnt j d a (by rw [wg hj]; exact q) (by rw [sg hj]; exact w)
  · by_cases hi : i ∈ vs
    · rw [bi hi] at q1
      by_cases hj : j ∈ vs
      · rw [bi hj] at q2
        exact s1.inj i j d e a q1 q2 w1 w2
      · rw [bo hj] at q2
        obtain ⟨i', c, n', q', w'⟩ := was hj q2 w2
        exact absurd (s1.inj i i' d c a q1 q' w1 w' ▸ hi) n'
    · rw [bo hi] at q1
      by_cases hj : j ∈ vs
      · rw [bi hj] at q2
        obtain ⟨i', c, n', q', w'⟩ := was hi q1 w1
        exact absurd (s1.inj j i' e c a q2 q' w2 w' ▸ hj) n'
      · rw [bo hj] at q2
        exact s2.inj i j d e a (by rw [wg hi]; exact q1) (by rw [wg hj]; exact q2) (by rw [sg hi]; exact w1) (by rw [sg hj]; exact w2)
  · rcases m.fr a q with w | w | w
    · exact .inl w
    · exact .inr (.inl w)
    · exact .inr (.inr (own_wipe w))
  · obtain ⟨j, d, q, w⟩ := z
    by_cases hj : j ∈ vs
    · rw [bi hj] at q
      exact ⟨j, d, q, w⟩
    · rw [bo hj] at q
      obtain ⟨i, c, _, q', w'⟩ := was hj q w
      exact ⟨i, c, q', w'⟩
end
theorem Out.mono {K : Fg} {F G H H' : Hp} {t : TV} {z : V} (s : Sub F G) (h : Out K F H t z H') : Out K G H t z H' := by
  cases h with
  | same h => exact .same (h.mono s)
  | tup n r => exact .tup n (r.mono s)
  | lst n r => exact .lst n (r.mono s)
end Ev

end
section
set_option linter.all false
set_option maxHeartbeats 4000000
namespace Ev
open PySem PySem.Spec PyProof.Rows L2
/-- a block's state: the slots vs are its own; the new list stands at D, the items so far are ads -/
structure BlkS (K : Fg) (B : Bs) (F H : Hp) (σ : L2.St) (vs : List Nat) (r : Env) (D : Addr) (ads : List Ev.D) : Prop where
  st : StR K B F H (wipe σ vs) (wipeE vs r)
  nD : F D = none
  no : ¬ Own (wipe σ vs) (wipeE vs r) D
  acc : ∃ acc, H D = some (.lst acc) ∧ RpL K F acc ads
abbrev OD (σ : L2.St) (vs : List Nat) (r : Env) (D : Addr) : Addr → Prop := fun a => Own (wipe σ vs) (wipeE vs r) a ∨ a = D
/-- one turn -/
def TurnOk (K : Fg) (B : Bs) (σ : L2.St) (vs : List Nat) (D : Addr) (f : Ev.D → Env → Res (List Ev.D)) (T : V → Hp → (Hp → Prop) → Prop) : Prop :=
  ∀ (F H : Hp) (x : V) (d : Ev.D) (r r' : Env) (ys ads : List Ev.D) (Nx : Hp → Prop), BlkS K B F H σ vs r D ads → Rp K F x d → f d r = .ok ys r' → (ads ++ ys).length ≤ SZ →
    (∀ F' H', BlkS K B F' H' σ vs r' D (ads ++ ys) → Mv (OD σ vs r D) (OD σ vs r' D) F H F' H' → (∀ a, Own (wipe σ vs) (wipeE vs r') a → Own (wipe σ vs) (wipeE vs r) a) → Nx H') → T x H Nx
theorem compL_cons {f : D → Env → Res (List D)} {x : D} {xs ys : List D} {r rE : Env} (h : compL f (x :: xs) r = .ok ys rE) : ∃ as r' bs, f x r = .ok as r' ∧ compL f xs r' = .ok bs rE ∧ ys = as ++ bs := by
  unfold compL at h
  split at h
  · rename_i as r' e1
    split at h
    · rename_i bs r2 e2
      cases h
      exact ⟨as, r', bs, e1, e2, rfl⟩
    · cases h
  · cases h
theorem loop_gen {K : Fg} {B : Bs} {F0 F1 H1 : Hp} {σ : L2.St} {vs : List Nat} {D : Addr} {f : Ev.D → Env → Res (List Ev.D)} {T : V → Hp → (Hp → Prop) → Prop} {J : It} {xs ys ads : List Ev.D} {r1 rE : Env} {Qd : Hp → Prop}
    (hT : TurnOk K B σ vs D f T) (wk : WkD K F0 J xs) (sb0 : Sub F0 F1) (b0 : BlkS K B F1 H1 σ vs r1 D ads) (hc : compL f xs r1 = .ok ys rE) (hl : (ads ++ ys).length ≤ SZ)
    (fin : ∀ F' H', BlkS K B F' H' σ vs rE D (ads ++ ys) → Mv (OD σ vs r1 D) (OD σ vs rE D) F1 H1 F' H' → (∀ a, Own (wipe σ vs) (wipeE vs rE) a → Own (wipe σ vs) (wipeE vs r1) a) → Qd H') :
    ∃ W : Nat → Nat → Hp → Prop, (∃ m, W 0 m H1) ∧ ∀ i m H, W i m H → (J.stop i H ∧ Qd H) ∨ (J.go i H ∧ ∃ Nx : Hp → Prop, (∀ H', Nx H' → ∃ m', m' < m ∧ W (i + 1) m' H') ∧ ∀ x H', J.yld i H x H' → T x H' Nx) := by
  refine ⟨fun i m H => m = xs.length - i ∧ i ≤ xs.length ∧ ∃ F r as bs, BlkS K B F H σ vs r D (ads ++ as) ∧ Mv (OD σ vs r1 D) (OD σ vs r D) F1 H1 F H ∧ (∀ a, Own (wipe σ vs) (wipeE vs r) a → Own (wipe σ vs) (wipeE vs r1) a) ∧ compL f (xs.drop i) r = .ok bs rE ∧ as ++ bs = ys, ⟨xs.length, by simp, Nat.zero_le _, F1, r1, [], ys, by simpa using b0, Mv.refl, fun _ h => h, hc, rfl⟩, fun i m H => ?_⟩
  rintro ⟨rfl, hi, F, r, as, bs, bs0, mv, ow, hcl, hy⟩
  have sb : Sub F0 F := sb0.trans mv.mono
  by_cases hlt : i < xs.length
  · have hd : xs.drop i = xs[i] :: xs.drop (i + 1) := List.drop_eq_getElem_cons hlt
    rw [hd] at hcl
    obtain ⟨cs, r', ds, e1, e2, e3⟩ := compL_cons hcl
    refine .inr ⟨wk.goes i H hlt (sb.trans bs0.st.sub), fun H' => (∃ F' r' as' bs', BlkS K B F' H' σ vs r' D (ads ++ as') ∧ Mv (OD σ vs r1 D) (OD σ vs r' D) F1 H1 F' H' ∧ (∀ a, Own (wipe σ vs) (wipeE vs r') a → Own (wipe σ vs) (wipeE vs r1) a) ∧ compL f (xs.drop (i + 1)) r' = .ok bs' rE ∧ as' ++ bs' = ys),
      fun H' q => ⟨xs.length - (i + 1), by omega, rfl, hlt, q⟩, fun x H' y => ?_⟩
    obtain ⟨d, hd2, out⟩ := wk.yields i H x H' hlt (sb.trans bs0.st.sub) y
    have ed : d = xs[i] := by
      rw [List.getElem?_eq_getElem hlt] at hd2
      exact (Option.some.inj hd2).symm
    subst ed
    obtain ⟨F3, p3, t3⟩ := (out.mono sb).post bs0.st
    have nD3 : F3 D = none := by
      cases z : F3 D with
      | none => rfl
      | some u =>
        obtain ⟨acc, ha, _⟩ := bs0.acc
        rcases p3.fr D (by rw [z]; simp) with w | w | w
        · exact absurd bs0.nD w
        · rw [ha] at w; cases w
        · exact absurd w bs0.no
    have b3 : BlkS K B F3 H' σ vs r D (ads ++ as) := by
      obtain ⟨acc, ha, hr⟩ := bs0.acc
      exact ⟨p3.st, nD3, bs0.no, acc, p3.frame D _ ha bs0.no, hr.mono p3.mono⟩
    have mv3 : Mv (OD σ vs r D) (OD σ vs r D) F H F3 H' := ⟨p3.mono, fun a o h n => p3.frame a o h fun z => n (.inl z), p3.dom, fun a h => by
      rcases p3.fr a h with w | w | w
      · exact .inl w
      · exact .inr (.inl w)
      · exact .inr (.inr (.inl w)), fun _ h => h⟩
    refine hT F3 H' x _ r r' cs (ads ++ as) _ b3 t3 e1 ?_ fun F4 H4 b4 mv4 ow4 => ?_
    · have hh : ((ads ++ as) ++ cs).length ≤ (ads ++ ys).length := by
        rw [← hy, e3]
        simp only [List.length_append]
        omega
      exact Nat.le_trans hh hl
    · refine ⟨F4, r', as ++ cs, ds, by rw [← List.append_assoc]; exact b4, (mv.trans mv3).trans mv4, fun a h => ow a (ow4 a h), e2, ?_⟩
      rw [List.append_assoc, ← e3, hy]
  · have e : i = xs.length := by omega
    subst e
    rw [List.drop_length] at hcl
    cases hcl
    rw [List.append_nil] at hy
    subst hy
    exact .inl ⟨wk.stops H (sb.trans bs0.st.sub), fin F H bs0 mv ow⟩
/-- an expression's steps within a turn leave the new list as it is -/
theorem blk_keep {F H F' H' : Hp} {O O' : Addr → Prop} {D : Addr} {o : HO} (m : Mv O O' F H F' H') (hD : H D = some o) (nD : F D = none) (no : ¬ O D) : H' D = some o ∧ F' D = none := by
  refine ⟨m.frame D o hD no, ?_⟩
  cases z : F' D with
  | none => rfl
  | some u =>
    rcases m.fr D (by rw [z]; simp) with w | w | w
    · exact absurd nD w
    · rw [hD] at w; cases w
    · exact absurd w no
theorem Mv.withD {O O' : Addr → Prop} {F H F' H' : Hp} {D : Addr} (m : Mv O O' F H F' H') : Mv (fun a => O a ∨ a = D) (fun a => O' a ∨ a = D) F H F' H' :=
  ⟨m.mono, fun a o h n => m.frame a o h fun z => n (.inl z), m.dom, fun a h => by
      rcases m.fr a h with w | w | w
      · exact .inl w
      · exact .inr (.inl w)
      · exact .inr (.inr (.inl w)), fun a h => h.elim (fun z => .inl (m.own a z)) .inr⟩
theorem Mv.put {O : Addr → Prop} {F H : Hp} {D : Addr} {o u : HO} (hD : H D = some u) : Mv (fun a => O a ∨ a = D) (fun a => O a ∨ a = D) F H F (upd H D o) :=
  ⟨Sub.refl _, fun a v h n => by rw [upd_ne (fun z => n (.inr z))]; exact h, fun a h => by
      by_cases z : a = D
      · subst z; rw [upd_same]; simp
      · rw [upd_ne z]; exact h, fun a h => .inl h, fun _ h => h⟩
theorem wipeE_eq {r r2 : Env} {vs : List Nat} (hl : r2.length = r.length) (h : ∀ j, j ∉ vs → r2[j]? = (wipeE vs r)[j]?) : wipeE vs r2 = wipeE vs r := by
  apply List.ext_getElem?
  intro j
  rw [wipeE_get r2, wipeE_get r]
  by_cases hj : j ∈ vs
  · rw [if_pos hj, if_pos hj]
    by_cases hb : j < r.length
    · rw [List.getElem?_eq_getElem hb, List.getElem?_eq_getElem (by omega)]; rfl
    · rw [List.getElem?_eq_none (by omega), List.getElem?_eq_none (by omega)]
  · rw [if_neg hj, if_neg hj, h j hj, wipeE_get, if_neg hj]
/-- the element is appended -/
theorem put_item {K : Fg} {B : Bs} {F H : Hp} {σ σ2 : L2.St} {vs : List Nat} {r6 : Env} {D : Addr} {acc : List V} {ads : List Ev.D} {y : V} {v : Ev.D} (s : StR K B F H σ2 r6) (hw : wipe σ2 vs = wipe σ vs) (hD : H D = some (.lst acc)) (nD : F D = none) (hr : RpL K F acc ads) (hv : Rp K F y v)
    (no : ¬ Own (wipe σ vs) (wipeE vs r6) D) : BlkS K B F (upd H D (.lst (acc ++ [y]))) σ vs r6 D (ads ++ [v]) := by
  have sw := st_wipe s vs
  rw [hw] at sw
  exact ⟨st_upd sw nD no, nD, no, _, upd_same, hr.append (.cons hv .nil)⟩
section
variable {X : Cx} {B : Bs} {e a b c tg iter : Expr} {pos : Pos} {f g h : Env → Res TV}
theorem PTs.imp {ifs : List Expr} {t t' : TT} (h : PTs X ifs t) (w : ∀ σ H Q, t' σ H Q → t σ H Q) : PTs X ifs t' := ⟨fun pins s σ H Q I q => h.run pins s σ H Q I (w σ H Q q)⟩
theorem rt_no : PTs X [] (RdC X.K B fun r => .ok true r) := PTs.imp pts_nil fun σ H Q ⟨F, r, s, t, r', e, k⟩ => by
  cases e
  exact k F H (Post.refl s)
/-- the turn of a comprehension, behind the target's store and the tests: one item or none -/
theorem item_turn {K : Fg} {B : Bs} {σ : L2.St} {vs : List Nat} {D : Addr} {t : IT} {gt : Env → Res Bool} {ge : Env → Res TV} (hsl : ∀ i ∈ slotsT t, i ∈ vs) :
    TurnOk K B σ vs D (fun x r2 => (asn t (.d x) (wipeE vs r2)).bind fun _ r3 => (gt r3).bind fun ok r4 => match ok with
      | true => (ge r4).bind fun y r5 => (solidR r5 y).bind fun v r6 => .ok [v] r6
      | false => .ok [] r4)
     (fun x H Nx => RdG K B t x (wipe σ vs) H fun σ2 H2 => wipe σ2 vs = wipe σ vs ∧ RdC K B gt σ2 H2 fun b H3 =>
        if b = true then RdE K B ge σ2 H3 fun y H4 => ∃ acc, H4 D = some (.lst acc) ∧ acc.length < sizeLine ∧ Nx (upd H4 D (.lst (acc ++ [y]))) else Nx H3) := by
  intro F H x d r r' ys ads Nx b0 hv ef hl k
  obtain ⟨_, r3, e3, ef⟩ := bind_inv ef
  obtain ⟨ok, r4, e4, ef⟩ := bind_inv ef
  refine ⟨F, wipeE vs r, d, b0.st, hv, r3, e3, fun σ2 pa => ?_⟩
  have hw : wipe σ2 vs = wipe σ vs := wipe_eq (by rw [pa.len, wipe_length]) fun j hj => (pa.oth j fun z => hj (hsl j z)).1
  refine ⟨hw, F, r3, pa.st, ok, r4, e4, fun F4 H4 p4 => ?_⟩
  obtain ⟨acc, hD, hr⟩ := b0.acc
  have no3 : ¬ Own σ2 r3 D := fun z => b0.no (pa.own D z)
  obtain ⟨hD4, nD4⟩ := blk_keep p4.mv hD b0.nD no3
  have no4 : ¬ Own σ2 r4 D := fun z => no3 (p4.own D z)
  have m0 : Mv (Own (wipe σ vs) (wipeE vs r)) (Own σ2 r3) F H F H := Mv.less pa.own
  have hlen : ∀ q : Env, q.length = r4.length → True := fun _ _ => trivial
  cases ok with
  | true =>
    rw [if_pos rfl]
    obtain ⟨y, r5, e5, ef⟩ := bind_inv ef
    obtain ⟨v, r6, e6, ef⟩ := bind_inv ef
    cases ef
    refine ⟨F4, r4, p4.st, y, r5, e5, fun yv F5 H5 p5 t5 => ?_⟩
    obtain ⟨F6, p6, h6, _⟩ := solid_post p4.st p5 t5 (solidR_ok e6)
    obtain ⟨hD6, nD6⟩ := blk_keep p6.mv hD4 nD4 no4
    have mm : Mv (Own (wipe σ vs) (wipeE vs r)) (Own (wipe σ vs) (wipeE vs r')) F H F6 H5 := by
      refine ((m0.trans p4.mv).trans p6.mv).trans (Mv.less fun a z => ?_)
      rw [← hw] at z
      exact own_wipe z
    have no6 : ¬ Own (wipe σ vs) (wipeE vs r') D := fun z => b0.no (mm.own D z)
    have hr6 : RpL K F6 acc ads := hr.mono mm.mono
    refine ⟨acc, hD6, ?_, ?_⟩
    · rw [hr6.length, ← szl]
      have hz : (ads ++ [v]).length ≤ SZ := hl
      rw [List.length_append, List.length_cons, List.length_nil] at hz
      exact hz
    · refine k F6 _ (put_item p6.st hw hD6 nD6 hr6 h6 no6) (mm.withD.trans (Mv.put hD6)) mm.own
  | false =>
    rw [if_neg (by decide)]
    cases ef
    have mm : Mv (Own (wipe σ vs) (wipeE vs r)) (Own (wipe σ vs) (wipeE vs r')) F H F4 H4 := by
      refine (m0.trans p4.mv).trans (Mv.less fun a z => ?_)
      rw [← hw] at z
      exact own_wipe z
    have sw := st_wipe p4.st vs
    rw [hw] at sw
    refine k F4 H4 ⟨sw, nD4, fun z => b0.no (mm.own D z), acc, hD4, by rw [List.append_nil]; exact hr.mono mm.mono⟩ mm.withD mm.own
/-- behind the loop: the list is the comprehension's value -/
theorem comp_end {K : Fg} {B : Bs} {F H F1 H1 F2 H2 : Hp} {σ : L2.St} {vs : List Nat} {r r1 r2 : Env} {D : Addr} {ys : List Ev.D} (p1 : Post K B σ r F H r1 F1 H1) (hD : H1 D = none) (b : BlkS K B F2 H2 σ vs r2 D ys) (m : Mv (OD σ vs r1 D) (OD σ vs r2 D) F1 (upd H1 D (.lst [])) F2 H2)
    (ow : ∀ a, Own (wipe σ vs) (wipeE vs r2) a → Own (wipe σ vs) (wipeE vs r1) a) : Post K B σ r F H (backE r1 vs r2) F2 H2 ∧ TvR K H σ F2 H2 (.f (.list ys)) (.ref D) := by
  have mm : Mv (Own (wipe σ vs) (wipeE vs r1)) (Own (wipe σ vs) (wipeE vs r2)) F1 H1 F2 H2 := by
    refine ⟨m.mono, fun a o h n => ?_, fun a h => ?_, fun a h => ?_, ow⟩
    · have ne : a ≠ D := ne_of_none h hD
      refine m.frame a o (by rw [upd_ne ne]; exact h) fun z => z.elim n ne
    · refine m.dom a ?_
      by_cases ne : a = D
      · subst ne; rw [upd_same]; simp
      · rw [upd_ne ne]; exact h
    · rcases m.fr a h with w | w | w
      · exact .inl w
      · by_cases ne : a = D
        · subst ne; exact .inr (.inl hD)
        · rw [upd_ne ne] at w; exact .inr (.inl w)
      · rcases w with w | w
        · exact .inr (.inr w)
        · subst w; exact absurd b.nD h
  obtain ⟨s2, m2⟩ := unwipe p1.st b.st mm
  obtain ⟨acc, h1, h2⟩ := b.acc
  refine ⟨p1.trans (m2.post s2), D, _, rfl, h1, b.nD, ⟨acc, rfl, h2⟩, ?_⟩
  exact Classical.byContradiction fun n => p1.dom D n hD
theorem comp_start {K : Fg} {B : Bs} {F1 H1 : Hp} {σ : L2.St} {vs : List Nat} {r1 : Env} {D : Addr} (s : StR K B F1 H1 σ r1) (hD : H1 D = none) : BlkS K B F1 (upd H1 D (.lst [])) σ vs r1 D [] := by
  have fD : F1 D = none := by
    cases z : F1 D with
    | none => rfl
    | some u => rw [s.sub _ _ z] at hD; cases hD
  have no : ¬ Own (wipe σ vs) (wipeE vs r1) D := fun z => by
    obtain ⟨o, e, _⟩ := s.ownH (own_wipe z)
    rw [hD] at e; cases e
  exact ⟨st_upd (st_wipe s vs) fD no, fD, no, [], upd_same, .nil⟩
theorem rd_cm1 {elt : Expr} {ifs : List Expr} {scope : Scope} {own : List (Str × Nat)} {t : IT} {gi : Env → Res (List D)} {gt : Env → Res Bool} {ge : Env → Res TV} (hc : X.calm = true) (hN : X.N.Nodup) (hi : PI X tg iter (RdI X.K B gi)) (ok : BlkOk X.N X.env.scope scope own)
    (hg : ∀ (s : Shared) (H : Hp) (C : Addr) (cl : List (Str × Addr)) (fp : List Addr), PG (X.blk s H scope (compEnvC scope cl C X.env) fp) tg (RdG X.K B t)) (ht : ∀ (s : Shared) (H : Hp) (C : Addr) (cl : List (Str × Addr)) (fp : List Addr), PTs (X.blk s H scope (compEnvC scope cl C X.env) fp) ifs (RdC X.K B gt))
    (he : ∀ (s : Shared) (H : Hp) (C : Addr) (cl : List (Str × Addr)) (fp : List Addr), PE (X.blk s H scope (compEnvC scope cl C X.env) fp) elt (RdE X.K B ge)) (hs : ∀ x, foldedSetIterable iter X.env x = pure x) (hsl : ∀ i ∈ slotsT t, i ∈ own.map (·.2)) :
    (∀ σ H Q, RdE X.K B (fun r => (gi r).bind fun xs r1 =>
      match compL (fun x r2 => (asn t (.d x) (wipeE (own.map (·.2)) r2)).bind fun _ r3 =>
          (gt r3).bind fun ok r4 => match ok with
            | true => (ge r4).bind fun y r5 => (solidR r5 y).bind fun v r6 => .ok [v] r6
            | false => .ok [] r4) xs r1 with
      | .ok ys r2 => if ys.length ≤ SZ then .ok (.f (.list ys)) (backE r1 (own.map (·.2)) r2) else .stuck
      | _ => .stuck) σ H Q → tLc (RdI X.K B gi) (RdG X.K B t) (RdC X.K B gt) (RdE X.K B ge) (own.map (·.2)) σ H Q) := fun σ H Q ⟨F, r, s, tv, r', e, k⟩ => by
  obtain ⟨xs, r1, e1, e⟩ := bind_inv e
  split at e
  · rename_i ys r2 ec
    split at e
    · rename_i wl
      cases e
      refine ⟨F, r, s, xs, r1, e1, fun J F1 H1 p1 wk D hD => ?_⟩
      refine loop_gen (item_turn (σ := σ) (D := D) hsl) wk (Sub.refl _) (comp_start p1.st hD) ec (by simpa using wl) fun F2 H2 b2 mv ow => ?_
      obtain ⟨p, tv⟩ := comp_end p1 hD (by simpa using b2) mv ow
      exact k _ F2 H2 p tv
    · cases e
  · cases e
end
end Ev

end
section
set_option linter.all false
set_option maxHeartbeats 4000000
namespace Ev
open PySem PySem.Spec PyProof.Rows L2
theorem wipe_wipe {σ : L2.St} {vs ws : List Nat} (h : ∀ i ∈ ws, i ∈ vs) : wipe (wipe σ ws) vs = wipe σ vs :=
  wipe_eq (wipe_length _ _) fun j hj => by rw [wipe_get, if_neg fun z => hj (h j z), wipe_get, if_neg hj]
theorem wipeE_wipe {r : Env} {vs ws : List Nat} (h : ∀ i ∈ ws, i ∈ vs) : wipeE vs (wipeE ws r) = wipeE vs r :=
  wipeE_eq (wipeE_len _ _) fun j hj => by rw [wipeE_get, if_neg fun z => hj (h j z), wipeE_get, if_neg hj]
abbrev innerG (t2 : IT) (vs1 : List Nat) (gt2 : Env → Res Bool) (ge : Env → Res TV) : D → Env → Res (List D) := fun z r6 => (asn t2 (.d z) (wipeE vs1 r6)).bind fun _ r7 =>
                (gt2 r7).bind fun ok2 r8 => match ok2 with
                  | true => (ge r8).bind fun y r9 => (solidR r9 y).bind fun v r10 => .ok [v] r10
                  | false => .ok [] r8
theorem outer_turn {K : Fg} {B : Bs} {σ : L2.St} {vs vs1 : List Nat} {D : Addr} {t t2 : IT} {gt gt2 : Env → Res Bool} {ge : Env → Res TV} {gi2 : Env → Res (List Ev.D)} (hsl : ∀ i ∈ slotsT t, i ∈ vs) (hsl2 : ∀ i ∈ slotsT t2, i ∈ vs1) (hv : ∀ i ∈ vs1, i ∈ vs) :
    TurnOk K B σ vs D (fun x r2 => (asn t (.d x) (wipeE vs r2)).bind fun _ r3 => (gt r3).bind fun ok r4 => match ok with
      | true => (gi2 r4).bind fun zs r5 => compL (innerG t2 vs1 gt2 ge) zs r5
      | false => .ok [] r4)
     (fun x H Nx => RdG K B t x (wipe σ vs) H fun σ2 H2 => wipe σ2 vs = wipe σ vs ∧ RdC K B gt σ2 H2 fun b H3 =>
        if b = true then RdI K B gi2 σ2 H3 fun J1 H4 => ∃ W1 : Nat → Nat → Hp → Prop, (∃ m, W1 0 m H4) ∧ ∀ j k H, W1 j k H →
      (J1.stop j H ∧ Nx H) ∨ (J1.go j H ∧ ∃ Nx1 : Hp → Prop, (∀ H', Nx1 H' → ∃ k', k' < k ∧ W1 (j + 1) k' H') ∧ ∀ x H', J1.yld j H x H' → RdG K B t2 x (wipe σ2 vs1) H' fun σ3 H5 => wipe σ3 vs1 = wipe σ2 vs1 ∧ RdC K B gt2 σ3 H5 fun b H6 =>
        if b = true then RdE K B ge σ3 H6 fun y H7 => ∃ acc, H7 D = some (.lst acc) ∧ acc.length < sizeLine ∧ Nx1 (upd H7 D (.lst (acc ++ [y]))) else Nx1 H6)
        else Nx H3) := by
  intro F H x d r r' ys ads Nx b0 hv1 ef hl k
  obtain ⟨_, r3, e3, ef⟩ := bind_inv ef
  obtain ⟨ok, r4, e4, ef⟩ := bind_inv ef
  refine ⟨F, wipeE vs r, d, b0.st, hv1, r3, e3, fun σ2 pa => ?_⟩
  have hw : wipe σ2 vs = wipe σ vs := wipe_eq (by rw [pa.len, wipe_length]) fun j hj => (pa.oth j fun z => hj (hsl j z)).1
  refine ⟨hw, F, r3, pa.st, ok, r4, e4, fun F4 H4 p4 => ?_⟩
  obtain ⟨acc, hD, hr⟩ := b0.acc
  have no3 : ¬ Own σ2 r3 D := fun z => b0.no (pa.own D z)
  obtain ⟨hD4, nD4⟩ := blk_keep p4.mv hD b0.nD no3
  have no4 : ¬ Own σ2 r4 D := fun z => no3 (p4.own D z)
  have m0 : Mv (Own (wipe σ vs) (wipeE vs r)) (Own σ2 r3) F H F H := Mv.less pa.own
  cases ok with
  | true =>
    rw [if_pos rfl]
    obtain ⟨zs, r5, e5, ef⟩ := bind_inv ef
    refine ⟨F4, r4, p4.st, zs, r5, e5, fun J1 F5 H5 p5 wk => ?_⟩
    obtain ⟨hD5, nD5⟩ := blk_keep p5.mv hD4 nD4 no4
    have no5 : ¬ Own σ2 r5 D := fun z => no4 (p5.own D z)
    have m5 : Mv (Own (wipe σ vs) (wipeE vs r)) (Own σ2 r5) F H F5 H5 := (m0.trans p4.mv).trans p5.mv
    have b5 : BlkS K B F5 H5 σ2 vs1 r5 D ads := ⟨st_wipe p5.st vs1, nD5, fun z => no5 (own_wipe z), acc, hD5, hr.mono m5.mono⟩
    refine loop_gen (item_turn (σ := σ2) (vs := vs1) (D := D) hsl2) wk (Sub.refl _) b5 ef hl fun F6 H6 b6 mv ow => ?_
    have sw := st_wipe b6.st vs
    rw [wipe_wipe hv, wipeE_wipe hv, hw] at sw
    have o6 : ∀ a, Own (wipe σ vs) (wipeE vs r') a → Own (wipe σ2 vs1) (wipeE vs1 r') a := fun a z => by
      rw [← hw, ← wipe_wipe (σ := σ2) hv, ← wipeE_wipe (r := r') hv] at z
      exact own_wipe z
    have o65 : ∀ a, Own (wipe σ vs) (wipeE vs r') a → Own σ2 r5 a := fun a z => own_wipe (ow a (o6 a z))
    have oo : ∀ a, Own (wipe σ vs) (wipeE vs r') a → Own (wipe σ vs) (wipeE vs r) a := fun a z => m5.own a (o65 a z)
    refine k F6 H6 ⟨sw, b6.nD, fun z => b0.no (oo D z), b6.acc⟩ ?_ oo
    refine m5.withD.trans ((Mv.less fun a z => ?_).trans (mv.trans (Mv.less fun a z => ?_)))
    · exact z.elim (fun z => .inl (own_wipe z)) .inr
    · exact z.elim (fun z => .inl (o6 a z)) .inr
  | false =>
    rw [if_neg (by decide)]
    cases ef
    have mm : Mv (Own (wipe σ vs) (wipeE vs r)) (Own (wipe σ vs) (wipeE vs r')) F H F4 H4 := by
      refine (m0.trans p4.mv).trans (Mv.less fun a z => ?_)
      rw [← hw] at z
      exact own_wipe z
    have sw := st_wipe p4.st vs
    rw [hw] at sw
    refine k F4 H4 ⟨sw, nD4, fun z => b0.no (mm.own D z), acc, hD4, by rw [List.append_nil]; exact hr.mono mm.mono⟩ mm.withD mm.own
section
variable {X : Cx} {B : Bs} {tg iter : Expr}
theorem rd_cm2 {t t2 : IT} {vs vs1 : List Nat} {gi gi2 : Env → Res (List D)} {gt gt2 : Env → Res Bool} {ge : Env → Res TV} (hsl : ∀ i ∈ slotsT t, i ∈ vs) (hsl2 : ∀ i ∈ slotsT t2, i ∈ vs1) (hv : ∀ i ∈ vs1, i ∈ vs) :
    (∀ σ H Q, RdE X.K B (fun r => (gi r).bind fun xs r1 =>
      match compL (fun x r2 => (asn t (.d x) (wipeE vs r2)).bind fun _ r3 =>
          (gt r3).bind fun ok r4 => match ok with
            | true => (gi2 r4).bind fun zs r5 => compL (innerG t2 vs1 gt2 ge) zs r5
            | false => .ok [] r4) xs r1 with
      | .ok ys r2 => if ys.length ≤ SZ then .ok (.f (.list ys)) (backE r1 vs r2) else .stuck
      | _ => .stuck) σ H Q → tLc2 (RdI X.K B gi) (RdG X.K B t) (RdC X.K B gt) (RdI X.K B gi2) (RdG X.K B t2) (RdC X.K B gt2) (RdE X.K B ge) vs vs1 σ H Q) := fun σ H Q ⟨F, r, s, tv, r', e, k⟩ => by
  obtain ⟨xs, r1, e1, e⟩ := bind_inv e
  split at e
  · rename_i ys r2 ec
    split at e
    · rename_i wl
      cases e
      refine ⟨F, r, s, xs, r1, e1, fun J F1 H1 p1 wk D hD => ?_⟩
      refine loop_gen (outer_turn (σ := σ) (D := D) hsl hsl2 hv) wk (Sub.refl _) (comp_start p1.st hD) ec (by simpa using wl) fun F2 H2 b2 mv ow => ?_
      obtain ⟨p, tv⟩ := comp_end p1 hD (by simpa using b2) mv ow
      exact k _ F2 H2 p tv
    · cases e
  · cases e
end
end Ev

end
section
set_option linter.all false
set_option maxHeartbeats 4000000
/-! A comprehension over a list of the frame's own that stays it. -/
namespace Ev
open PySem PySem.Spec PyProof.Rows L2
theorem compO_zero {f : D → Env → Res (List D)} {i k : Nat} {r rE : Env} {ys : List D} (h : compO f i 0 k r = .ok ys rE) : ∃ xs, mutAt r i = some (.list xs) ∧ xs.length = k ∧ ys = [] ∧ r = rE := by
  unfold compO at h
  split at h
  · rename_i xs e
    split at h
    · cases h
      exact ⟨xs, e, by assumption, rfl, rfl⟩
    · cases h
  · cases h
theorem compO_succ {f : D → Env → Res (List D)} {i n k : Nat} {r rE : Env} {ys : List D} (h : compO f i (n + 1) k r = .ok ys rE) : ∃ xs x as r' bs, mutAt r i = some (.list xs) ∧ xs[k]? = some x ∧ f x r = .ok as r' ∧ compO f i n (k + 1) r' = .ok bs rE ∧ ys = as ++ bs := by
  unfold compO at h
  split at h
  · rename_i xs e
    split at h
    · rename_i x e1
      split at h
      · rename_i as r' e2
        split at h
        · rename_i bs r2 e3
          cases h
          exact ⟨xs, x, as, r', bs, e, e1, e2, e3, rfl⟩
        · cases h
      · cases h
    · cases h
  · cases h
/-- the list that a slot holds, at the slot's address -/
theorem own_list {K : Fg} {B : Bs} {F H : Hp} {σ : L2.St} {vs : List Nat} {r : Env} {D : Addr} {ads : List Ev.D} {i : Nat} {a : Addr} {xs : List Ev.D} (b : BlkS K B F H σ vs r D ads) (hi : i ∉ vs) (ha : σ[i]? = some (some (.ref a))) (hm : mutAt r i = some (.list xs)) : ∃ ws, H a = some (.lst ws) ∧ RpL K F ws xs := by
  have hw : (wipeE vs r)[i]? = r[i]? := by rw [wipeE_get, if_neg hi]
  obtain ⟨a', o, e1, e2, e3, e4⟩ := b.st.obj i (.list xs) (by
    rw [hw]
    exact mutAt_inv hm)
  rw [wipe_get, if_neg hi, ha] at e1
  cases e1
  obtain ⟨ws, rfl, hr⟩ := e4
  exact ⟨ws, e2, hr⟩
theorem loop_own {K : Fg} {B : Bs} {F1 H1 : Hp} {σ : L2.St} {vs : List Nat} {D a : Addr} {i n : Nat} {f : Ev.D → Env → Res (List Ev.D)} {T : V → Hp → (Hp → Prop) → Prop} {ys ads : List Ev.D} {r1 rE : Env} {Qd : Hp → Prop}
    (hT : TurnOk K B σ vs D f T) (hi : i ∉ vs) (ha : σ[i]? = some (some (.ref a))) (b0 : BlkS K B F1 H1 σ vs r1 D ads) (hc : compO f i n 0 r1 = .ok ys rE) (hl : (ads ++ ys).length ≤ SZ)
    (fin : ∀ F' H', BlkS K B F' H' σ vs rE D (ads ++ ys) → Mv (OD σ vs r1 D) (OD σ vs rE D) F1 H1 F' H' → (∀ a, Own (wipe σ vs) (wipeE vs rE) a → Own (wipe σ vs) (wipeE vs r1) a) → Qd H') :
    ∃ W : Nat → Nat → Hp → Prop, (∃ m, W 0 m H1) ∧ ∀ k m H, W k m H → ((Itl K a).stop k H ∧ Qd H) ∨ ((Itl K a).go k H ∧ ∃ Nx : Hp → Prop, (∀ H', Nx H' → ∃ m', m' < m ∧ W (k + 1) m' H') ∧ ∀ x H', (Itl K a).yld k H x H' → T x H' Nx) := by
  refine ⟨fun k m H => m = n - k ∧ k ≤ n ∧ ∃ F r as bs, BlkS K B F H σ vs r D (ads ++ as) ∧ Mv (OD σ vs r1 D) (OD σ vs r D) F1 H1 F H ∧ (∀ a, Own (wipe σ vs) (wipeE vs r) a → Own (wipe σ vs) (wipeE vs r1) a) ∧ compO f i (n - k) k r = .ok bs rE ∧ as ++ bs = ys, ⟨n, by simp, Nat.zero_le _, F1, r1, [], ys, by simpa using b0, Mv.refl, fun _ h => h, hc, rfl⟩, fun k m H => ?_⟩
  rintro ⟨rfl, hk, F, r, as, bs, bs0, mv, ow, hcl, hy⟩
  by_cases hlt : k < n
  · rw [show n - k = (n - (k + 1)) + 1 by omega] at hcl
    obtain ⟨xs, d, cs, r', ds, e0, e1, e2, e3, e4⟩ := compO_succ hcl
    obtain ⟨ws, hH, hr⟩ := own_list bs0 hi ha e0
    have hkl : k < ws.length := by
      rw [hr.length]
      exact (List.getElem?_eq_some_iff.mp e1).1
    refine .inr ⟨walk_list.goes k H hkl (SqL.of hH), fun H' => (∃ F' r' as' bs', BlkS K B F' H' σ vs r' D (ads ++ as') ∧ Mv (OD σ vs r1 D) (OD σ vs r' D) F1 H1 F' H' ∧ (∀ a, Own (wipe σ vs) (wipeE vs r') a → Own (wipe σ vs) (wipeE vs r1) a) ∧ compO f i (n - (k + 1)) (k + 1) r' = .ok bs' rE ∧ as' ++ bs' = ys),
      fun H' q => ⟨n - (k + 1), by omega, rfl, hlt, q⟩, fun x H' y => ?_⟩
    obtain ⟨rfl, hx⟩ := walk_list.yields k H x H' hkl (SqL.of hH) y
    obtain ⟨d', hd1, hd2⟩ := hr.getv k x hx
    rw [e1] at hd1
    cases hd1
    refine hT F H' x _ r r' cs (ads ++ as) _ bs0 hd2 e2 ?_ fun F4 H4 b4 mv4 ow4 => ?_
    · have hh : ((ads ++ as) ++ cs).length ≤ (ads ++ ys).length := by
        rw [← hy, e4]
        simp only [List.length_append]
        omega
      exact Nat.le_trans hh hl
    · refine ⟨F4, r', as ++ cs, ds, by rw [← List.append_assoc]; exact b4, mv.trans mv4, fun a h => ow a (ow4 a h), e3, ?_⟩
      rw [List.append_assoc, ← e4, hy]
  · have e : k = n := by omega
    subst e
    rw [Nat.sub_self] at hcl
    obtain ⟨xs, e0, e1, e2, e3⟩ := compO_zero hcl
    subst e2; subst e3
    rw [List.append_nil] at hy
    subst hy
    obtain ⟨ws, hH, hr⟩ := own_list bs0 hi ha e0
    have hs := walk_list.stops H (SqL.of (K := K) hH)
    rw [hr.length, e1] at hs
    exact .inl ⟨hs, fin F H bs0 mv ow⟩
section
variable {X : Cx} {B : Bs} {tg iter : Expr}
abbrev cmoG (own : List (Str × Nat)) (t : IT) (i : Nat) (gt : Env → Res Bool) (ge : Env → Res TV) : Env → Res TV := fun r => match mutAt r i with
    | some (.list xs) => if (own.map (·.2)).contains i = true then .stuck else
      match compO (fun x r2 => (asn t (.d x) (wipeE (own.map (·.2)) r2)).bind fun _ r3 =>
          (gt r3).bind fun ok r4 => match ok with
            | true => (ge r4).bind fun y r5 => (solidR r5 y).bind fun v r6 => .ok [v] r6
            | false => .ok [] r4) i xs.length 0 r with
      | .ok ys r2 => if ys.length ≤ SZ then .ok (.f (.list ys)) (backE r (own.map (·.2)) r2) else .stuck
      | _ => .stuck
    | _ => .stuck
theorem var_own (call : Nat → List Sl → CR) {r : Env} {i : Nat} {d : D} (h : mutAt r i = some d) : (ev call (.var i)).1 r = .ok (.s i) r := by
  show (match r[i]? with
    | some (.val d) => Res.ok (TV.d d) r
    | some (.own _) => .ok (.s i) r
    | some (.bor _) => .ok (.s i) r
    | _ => .stuck) = _
  rcases mutAt_inv h with h | h
  · rw [h]
  · rw [h]
theorem rd_cmo {own : List (Str × Nat)} {t : IT} {i : Nat} {gt : Env → Res Bool} {ge : Env → Res TV} (call : Nat → List Sl → CR) (hsl : ∀ i ∈ slotsT t, i ∈ own.map (·.2)) :
    ∀ σ H Q, RdE X.K B (cmoG own t i gt ge) σ H Q → tLc (iList X.K (RdE X.K B (ev call (.var i)).1)) (RdG X.K B t) (RdC X.K B gt) (RdE X.K B ge) (own.map (·.2)) σ H Q := fun σ H Q ⟨F, r, s, tv, r', e, k⟩ => by
  unfold cmoG at e
  split at e
  · rename_i xs hm
    split at e
    · cases e
    · rename_i hn
      have hni : i ∉ own.map (·.2) := fun z => hn (by rw [List.contains_iff_mem]; exact z)
      split at e
      · rename_i ys r2 ec
        split at e
        · rename_i wl
          cases e
          refine ⟨F, r, s, .s i, r, var_own call hm, fun x F1 H1 p1 t1 => ?_⟩
          have t1 : σ[i]? = some (some x) := t1
          obtain ⟨a, o, e1, e2, e3, e4⟩ := p1.st.obj i (.list xs) (mutAt_inv hm)
          rw [t1] at e1
          cases e1
          obtain ⟨ws, rfl, hr⟩ := e4
          refine ⟨a, rfl, ⟨ws, SqL.of e2⟩, fun D hD => ?_⟩
          refine loop_own (item_turn (σ := σ) (D := D) hsl) hni t1 (comp_start p1.st hD) ec (by simpa using wl) fun F2 H2 b2 mv ow => ?_
          obtain ⟨p, tv⟩ := comp_end p1 hD (by simpa using b2) mv ow
          exact k _ F2 H2 p tv
        · cases e
      · cases e
  · cases e
end
end Ev

end
section
set_option linter.all false
set_option maxHeartbeats 2000000
namespace Ev
open PySem PySem.Spec PyProof.Rows L2
theorem keyIs_D (k k' : Key) : Ev.keyIs (keyD k) (keyD k') = decide (k = k') := by
  cases k <;> cases k' <;> simp [keyD, Ev.keyIs] <;> rfl
theorem RpK.look {K : Fg} {F : Hp} (k : Key) : ∀ {kvs : List (Key × V)} {ps : List (D × D)}, RpK K F kvs ps → (lookD ps (keyD k) = none ∧ valV kvs k = none) ∨ ∃ d v, lookD ps (keyD k) = some d ∧ valV kvs k = some v ∧ Rp K F v d
  | _, _, .nil => .inl ⟨rfl, rfl⟩
  | _, _, .cons (k := k') (v := v) (d := d) (kvs := kvs) (ps := ps) h r => by
    by_cases e : k' = k
    · subst e
      refine .inr ⟨d, v, ?_, valV_pos rfl, h⟩
      show (if Ev.keyIs (keyD k') (keyD k') = true then some d else _) = _
      rw [keyIs_D, decide_eq_true rfl, if_pos rfl]
    · have e1 : lookD ((keyD k', d) :: ps) (keyD k) = lookD ps (keyD k) := by
        show (if Ev.keyIs (keyD k') (keyD k) = true then some d else _) = _
        rw [keyIs_D, decide_eq_false e, if_neg (by decide)]
      rw [e1, valV_neg (p := (k', v)) e]
      exact RpK.look k r
theorem RpK.any {K : Fg} {F : Hp} (k : Key) : ∀ {kvs : List (Key × V)} {ps : List (D × D)}, RpK K F kvs ps → (ps.any fun p => Ev.keyIs p.1 (keyD k)) = kvs.any fun kv => decide (kv.1 = k)
  | _, _, .nil => rfl
  | _, _, .cons h r => by
    rw [List.any_cons, List.any_cons, RpK.any k r, keyIs_D]
theorem RpK.app {K : Fg} {F : Hp} : ∀ {kvs lvs : List (Key × V)} {ps qs : List (D × D)}, RpK K F kvs ps → RpK K F lvs qs → RpK K F (kvs ++ lvs) (ps ++ qs)
  | _, _, _, _, .nil, r => r
  | _, _, _, _, .cons h r, q => .cons h (RpK.app r q)
theorem RpK.repl {K : Fg} {F : Hp} (k : Key) {v : V} {d : D} (hv : Rp K F v d) : ∀ {kvs : List (Key × V)} {ps : List (D × D)}, RpK K F kvs ps →
    RpK K F (kvs.map (fun kv => if kv.1 = k then (kv.1, v) else kv)) (ps.map (fun p => if Ev.keyIs p.1 (keyD k) = true then (p.1, d) else p))
  | _, _, .nil => .nil
  | _, _, .cons (k := k') h r => by
    have ih := RpK.repl k hv r
    rw [List.map_cons, List.map_cons]
    by_cases e : k' = k
    · subst e
      rw [if_pos rfl, keyIs_D, decide_eq_true rfl, if_pos rfl]
      exact .cons hv ih
    · rw [if_neg e, keyIs_D, decide_eq_false e, if_neg (by decide)]
      exact .cons h ih
theorem RpK.put {K : Fg} {F : Hp} {kvs : List (Key × V)} {ps : List (D × D)} (r : RpK K F kvs ps) (k : Key) {v : V} {d : D} (hv : Rp K F v d) : RpK K F (putK kvs k v) (putD ps (keyD k) d) := by
  unfold putK putD
  rw [r.any k]
  split
  · exact r.repl k hv
  · exact r.app (.cons hv .nil)
theorem key_of_isKey {d : D} (h : isKey d = true) : ∃ k : Key, d = keyD k := by
  cases d <;> first | (exact ⟨.inl _, rfl⟩) | (exact ⟨.inr _, rfl⟩) | (simp [isKey] at h)
theorem rq_key {K : Fg} {F H : Hp} {y : V} {k : Key} (h : Rq K F H y (keyD k)) : y = kV k := by
  cases k with
  | inl i => exact h.int
  | inr x => exact h.str
theorem Rq.dic {K : Fg} {F H : Hp} {x : V} {ps : List (D × D)} (s : Sub F H) (h : Rq K F H x (.dict ps)) (hk : ps.all (fun p => isKey p.1) = true) : ∃ a kvs, x = .ref a ∧ H a = some (.dK kvs) ∧ RpK K F kvs ps := by
  rcases h with h | ⟨a, o, e, e1, e2⟩
  · cases h with
    | dic h1 h2 => exact ⟨_, _, rfl, s _ _ h1, h2⟩
    | dit h1 h2 => simp [isKey] at hk
    | scr h1 h2 => simp [isKey] at hk
  · rcases e2 with ⟨kvs, e3, h2⟩ | ⟨kvs, qs, e0, e3, h2⟩
    · subst e3
      exact ⟨_, _, e, e1, h2⟩
    · subst e0
      simp [isKey] at hk
theorem isD_of {K : Fg} {F H : Hp} {x : V} {d : D} (s : Sub F H) (h : Rq K F H x d) (hd : isDict d = true) : ∃ a, x = .ref a ∧ IsD H a := by
  rcases h with h | ⟨a, o, e, e1, e2⟩
  · cases h <;> first
      | (rename_i h1 h2; exact ⟨_, rfl, .inl ⟨_, .inl (s _ _ h1)⟩⟩)
      | (rename_i h1 h2; exact ⟨_, rfl, .inr ⟨_, .inl (s _ _ h1)⟩⟩)
      | (simp [isDict] at hd)
  · cases d with
    | dict ps =>
      rcases e2 with ⟨kvs, e3, h2⟩ | ⟨kvs, qs, e0, e3, h2⟩
      · subst e3; exact ⟨a, e, .inl ⟨_, .inl e1⟩⟩
      · subst e3; exact ⟨a, e, .inr ⟨_, .inl e1⟩⟩
    | list l => simp [isDict] at hd
    | none => exact e2.elim
    | bool b => exact e2.elim
    | int i => exact e2.elim
    | str s => exact e2.elim
    | tuple l => exact e2.elim
theorem dictR_inv {r r' : Env} {t : TV} (h : dictR r t = .ok () r') : ∃ u, deref r t = some u ∧ isDict u = true ∧ r = r' := by
  unfold dictR at h
  split at h
  · rename_i u hu
    split at h
    · rename_i w
      cases h
      exact ⟨u, hu, w, rfl⟩
    · cases h
  · cases h
/-- what d.get finds -/
theorem dget_of {K : Fg} {F H : Hp} {x y : V} {a : Addr} {u v : D} {t : Option D} (s : Sub F H) (hx : Rq K F H x u) (ex : x = .ref a) (hy : Rq K F H y v) (e : getD1 u v = some t) :
    ∃ o, DGet H a y o ∧ ((t = none ∧ o = none) ∨ ∃ d w, t = some d ∧ o = some w ∧ Rp K F w d) := by
  unfold getD1 at e
  split at e
  · rename_i kd ps
    split at e
    · rename_i w
      rw [Bool.and_eq_true] at w
      cases e
      obtain ⟨k, rfl⟩ := key_of_isKey w.1
      obtain ⟨a', kvs, e1, e2, e3⟩ := hx.dic s w.2
      rw [ex] at e1
      cases e1
      have ey := rq_key hy
      subst ey
      refine ⟨valV kvs k, DGet.k e2, ?_⟩
      rcases e3.look k with ⟨h1, h2⟩ | ⟨d, w', h1, h2, h3⟩
      · exact .inl ⟨h1, h2⟩
      · exact .inr ⟨d, w', h1, h2, h3⟩
    · cases e
  · cases e
def baseB : Expr → Bool
  | .Call _ _ _ _ => false
  | _ => true
section
variable {X : Cx} {B : Bs} {o e k d : Expr} {apos cpos pos : Pos} {f g h : Env → Res TV}
theorem base_ok {m : Str} {env : PySem.Env} (hb : baseB o = true) : attributeBase o m env (eval o env) = eval o env := by
  cases o <;> first | rfl | (simp [baseB] at hb)
theorem back_one {env : PySem.Env} (hp : plainE e = true) : backTo cpos (starEach [e] env) = [(false, eval e env)] := by
  rw [star_cons hp]; rfl
theorem back_two {env : PySem.Env} (hp : plainE e = true) (hp2 : plainE d = true) : backTo cpos (starEach [e, d] env) = [(false, eval e env), (false, eval d env)] := by
  rw [star_cons hp, star_cons hp2]; rfl
theorem m1_ok {m : Str} (hb : baseB o = true) (hp : plainE e = true) (hl : (apos.endLine == cpos.line) = true) : M1 X o m apos e cpos :=
  ⟨base_ok hb, by rw [back_one hp]; rfl, hl, back_one hp⟩
theorem m2_ok {m : Str} (hb : baseB o = true) (hp : plainE e = true) (hp2 : plainE d = true) (hl : (apos.endLine == cpos.line) = true) : M2 X o m apos e d cpos :=
  ⟨base_ok hb, by rw [back_two hp hp2]; rfl, hl, back_two hp hp2⟩
theorem rd_mg1 (hu : X.A.units + 1 < cLine) (hb : baseB o = true) (hp : plainE k = true) (hl : (apos.endLine == cpos.line) = true) (ho : PE X o (RdE X.K B f)) (hk : PE X k (RdE X.K B g)) :
    PE X (.Call (.Attribute o "get" apos) [k] [] cpos) (RdE X.K B fun r => (f r).bind fun x r1 => (dictR r1 x).bind fun _ r1 => (g r1).bind fun y r2 =>
      match deref r2 x, deref r2 y with
      | some u, some v => .of ((getD1 u v).map fun t => .d (t.getD .none)) r2
      | _, _ => .stuck) := by
  refine PE.imp (pe_dget1 hu ho hk (m1_ok hb hp hl)) fun σ H Q ⟨F, r, s, t, r', e, c⟩ => ?_
  obtain ⟨x, r1, e1, ea⟩ := bind_inv e
  obtain ⟨_, r1', e0, eb⟩ := bind_inv ea
  obtain ⟨u0, z0, w0, rfl⟩ := dictR_inv e0
  clear e ea
  obtain ⟨y, r2, e2, e⟩ := bind_inv eb
  refine ⟨F, r, s, x, r1, e1, fun xv F1 H1 p1 t1 => ?_⟩
  obtain ⟨a, ea, da⟩ := isD_of p1.st.sub (deref_rq p1.st t1 z0) w0
  refine ⟨a, ea, da, F1, r1, p1.st, y, r2, e2, fun yv F2 H2 p2 t2 => ?_⟩
  have t1' := t1.keep p2 (p1.ne s)
  split at e
  · rename_i u v z1 z2
    obtain ⟨e3, rfl⟩ := of_inv e
    rw [Option.map_eq_some_iff] at e3
    obtain ⟨tt, e3, rfl⟩ := e3
    obtain ⟨ov, g1, g2⟩ := dget_of p2.st.sub (deref_rq p2.st t1' z1) ea (deref_rq p2.st t2 z2) e3
    refine ⟨ov, g1, c _ F2 H2 (p1.trans p2) ?_⟩
    rcases g2 with ⟨rfl, rfl⟩ | ⟨dd, w, rfl, rfl, hw⟩
    · exact .non
    · exact hw
  · cases e
theorem rd_mg2 (hu : X.A.units + 1 < cLine) (hb : baseB o = true) (hp : plainE k = true) (hp2 : plainE d = true) (hl : (apos.endLine == cpos.line) = true) (ho : PE X o (RdE X.K B f)) (hk : PE X k (RdE X.K B g)) (hd : PE X d (RdE X.K B h)) :
    PE X (.Call (.Attribute o "get" apos) [k, d] [] cpos) (RdE X.K B fun r => (f r).bind fun x r1 => (dictR r1 x).bind fun _ r1 => (g r1).bind fun y r2 => (h r2).bind fun z r3 => (solidR r3 z).bind fun w r4 =>
      match deref r4 x, deref r4 y with
      | some u, some v => .of ((getD1 u v).map fun t => .d (t.getD w)) r4
      | _, _ => .stuck) := by
  refine PE.imp (pe_dget2 hu ho hk hd (m2_ok hb hp hp2 hl)) fun σ H Q ⟨F, r, s, t, r', e, c⟩ => ?_
  obtain ⟨x, r1, e1, ea⟩ := bind_inv e
  obtain ⟨_, r1', e0, eb⟩ := bind_inv ea
  obtain ⟨u0, z0, w0, rfl⟩ := dictR_inv e0
  clear e ea
  obtain ⟨y, r2, e2, ec⟩ := bind_inv eb
  obtain ⟨z, r3, e3, ed⟩ := bind_inv ec
  obtain ⟨w, r4, e4, e⟩ := bind_inv ed
  refine ⟨F, r, s, x, r1, e1, fun xv F1 H1 p1 t1 => ?_⟩
  obtain ⟨a, ea, da⟩ := isD_of p1.st.sub (deref_rq p1.st t1 z0) w0
  refine ⟨a, ea, da, F1, r1, p1.st, y, r2, e2, fun yv F2 H2 p2 t2 => ⟨F2, r2, p2.st, z, r3, e3, fun zv F3 H3 p3 t3 => ?_⟩⟩
  obtain ⟨F4, p4, h4, _⟩ := solid_post p2.st p3 t3 (solidR_ok e4)
  have t1' := (t1.keep p2 (p1.ne s)).keep p4 fun a q => p1.ne s a (p2.own a q)
  have t2' := t2.keep p4 (p2.ne p1.st)
  split at e
  · rename_i u v z1 z2
    obtain ⟨e5, rfl⟩ := of_inv e
    rw [Option.map_eq_some_iff] at e5
    obtain ⟨tt, e5, rfl⟩ := e5
    obtain ⟨ov, g1, g2⟩ := dget_of p4.st.sub (deref_rq p4.st t1' z1) ea (deref_rq p4.st t2' z2) e5
    refine ⟨ov, g1, c _ F4 H3 ((p1.trans p2).trans p4) ?_⟩
    rcases g2 with ⟨rfl, rfl⟩ | ⟨dd, w', rfl, rfl, hw⟩
    · exact h4
    · exact hw
  · cases e
end
end Ev

end
section
set_option linter.all false
set_option maxHeartbeats 2000000
namespace Ev
open PySem PySem.Spec PyProof.Rows L2
def keyC : Const → Key
  | .int i => .inl i
  | .str x => .inr x
  | _ => .inl 0
def keyCB : Const → Bool
  | .int _ => true
  | .str _ => true
  | _ => false
inductive PV (X : Cx) (B : Bs) (call : Nat → List Sl → CR) : List (Option Expr) → List Expr → List Const → IA → List (TE × TE) → Prop
  | nil : PV X B call [] [] [] .nil []
  | cons {k v : Expr} {ks : List (Option Expr)} {vs : List Expr} {c : Const} {cs : List Const} {a : IE} {l : IA} {trs : List (TE × TE)} : PE X k (tC (kV (keyC c))) → PE X v (RdE X.K B (ev call a).1) → PV X B call ks vs cs l trs →
      PV X B call (some k :: ks) (v :: vs) (c :: cs) (.cons a l) ((tC (kV (keyC c)), RdE X.K B (ev call a).1) :: trs)
section
variable {X : Cx} {B : Bs} {call : Nat → List Sl → CR} {pos : Pos}
theorem PV.pps : ∀ {ks : List (Option Expr)} {vs : List Expr} {cs : List Const} {l : IA} {trs : List (TE × TE)}, PV X B call ks vs cs l trs → PPs X pos ks vs trs
  | _, _, _, _, _, .nil => pps_nil
  | _, _, _, _, _, .cons h1 h2 r => pps_cons h1 h2 r.pps
theorem PV.pairs : ∀ {ks : List (Option Expr)} {vs : List Expr} {cs : List Const} {l : IA} {trs : List (TE × TE)}, PV X B call ks vs cs l trs → ∀ {σ : L2.St} {H : Hp} {Q : List (V × V) → Hp → Prop},
    RdA X.K B (evA call l) σ H (fun xs H' => xs.length = cs.length → Q ((cs.zip xs).map fun p => (kV (keyC p.1), p.2)) H') → tPairs trs σ H Q
  | _, _, _, _, _, .nil, σ, H, Q, ⟨F, r, s, t, r', e, k⟩ => by
    cases (show Res.ok [] r = Res.ok t r' from e)
    exact k [] F H (Post.refl s) .nil rfl
  | _, _, _, _, _, .cons (c := c) (cs := cs) (l := l) h1 h2 rest, σ, H, Q, ⟨F, r, s, t, r', e, k⟩ => by
    obtain ⟨x, r1, e1, e⟩ := bind_inv e
    obtain ⟨v, r2, e2, e⟩ := bind_inv e
    obtain ⟨vs, r3, e3, e⟩ := bind_inv e
    cases e
    refine ⟨F, r, s, x, r1, e1, fun xv F1 H1 p1 t1 => ?_⟩
    obtain ⟨F2, p2, hv, m2⟩ := solid_post s p1 t1 (solidR_ok e2)
    refine rest.pairs ⟨F2, r2, p2.st, vs, r', e3, fun xs F3 H3 p3 h3 hl => ?_⟩
    exact k (xv :: xs) F3 H3 (p2.trans p3) (.cons (hv.mono p3.mono) h3) (by rw [List.length_cons, List.length_cons, hl])
theorem PV.len : ∀ {ks : List (Option Expr)} {vs : List Expr} {cs : List Const} {l : IA} {trs : List (TE × TE)}, PV X B call ks vs cs l trs → ks.length = vs.length ∧ ks.length = cs.length ∧ ks.all (·.isSome) = true
  | _, _, _, _, _, .nil => ⟨rfl, rfl, rfl⟩
  | _, _, _, _, _, .cons h1 h2 r => by
    obtain ⟨a, b, c⟩ := r.len
    exact ⟨by rw [List.length_cons, List.length_cons, a], by rw [List.length_cons, List.length_cons, b], by rw [List.all_cons, c]; rfl⟩
def dstep (ps : List (D × D)) (p : Const × D) : List (D × D) := match p.1 with
      | .int i => putD ps (.int i) p.2
      | .str x => putD ps (.str x) p.2
      | _ => ps
theorem disp_merge {K : Fg} {F : Hp} : ∀ {cs : List Const} {xs : List V} {ds : List D}, RpL K F xs ds → cs.length = xs.length → cs.all keyCB = true → ∀ {kvs : List (Key × V)} {ps : List (D × D)}, RpK K F kvs ps →
    RpK K F (mergeK kvs ((cs.zip xs).map fun p => (keyC p.1, p.2))) ((cs.zip ds).foldl dstep ps)
  | [], xs, ds, h, hl, hc, kvs, ps, r => by
    cases h with
    | nil => exact r
    | cons h1 h2 => simp at hl
  | c :: cs, xs, ds, h, hl, hc, kvs, ps, r => by
    rw [List.all_cons, Bool.and_eq_true] at hc
    cases h with
    | nil => simp at hl
    | @cons x xs d ds h1 h2 =>
      have hl' : cs.length = xs.length := by simpa using hl
      show RpK K F (mergeK (putK kvs (keyC c) x) _) ((cs.zip ds).foldl dstep (dstep ps (c, d)))
      have e : dstep ps (c, d) = putD ps (keyD (keyC c)) d := by
        cases c <;> first | rfl | (simp [keyCB] at hc)
      rw [e]
      exact disp_merge h2 hl' hc.2 (r.put (keyC c) h1)
theorem rd_dsp {ks : List (Option Expr)} {vs : List Expr} {cs : List Const} {l : IA} {trs : List (TE × TE)} (h : PV X B call ks vs cs l trs) :
    PE X (.Dict ks vs pos) (RdE X.K B fun r => (evA call l r).bind fun vs r1 => match dispD cs vs with
      | some ps => .ok (.f (.dict ps)) r1
      | none => .stuck) := by
  obtain ⟨l1, l2, l3⟩ := h.len
  by_cases h0 : ks = [] ∨ ¬ ks.length ≤ 15
  · refine ⟨fun pins s σ H Q I ⟨F, r, st, t, r', e, k⟩ => ?_⟩
    obtain ⟨ds, r1, e1, e⟩ := bind_inv e
    split at e
    · rename_i ps hd
      unfold dispD at hd
      split at hd
      · rename_i w
        rcases h0 with h0 | h0
        · subst h0
          exact absurd (List.eq_nil_of_length_eq_zero l2.symm) w.2.2.1
        · exact absurd (l2 ▸ w.2.1) h0
      · cases hd
    · cases e
  · rw [not_or, Classical.not_not] at h0
    refine PE.imp (pe_disp h.pps l3 l1 h0.1 h0.2) fun σ H Q ⟨F, r, st, t, r', e, k⟩ p hp => ?_
    obtain ⟨ds, r1, e1, e⟩ := bind_inv e
    have lp := laid (o := .dK []) st hp
    have fp : F p = none := by
      cases q : F p with
      | none => rfl
      | some u =>
        rw [st.sub _ _ q] at hp
        cases hp
    have no : ¬ Own σ r p := fun q => by
      obtain ⟨o, eo, _⟩ := st.ownH q
      rw [hp] at eo
      cases eo
    refine h.pairs ⟨F, r, lp.st, ds, r1, e1, fun xs F1 H1 p1 rl hlen => ?_⟩
    split at e
    · rename_i ps hd
      cases e
      have hp1 : H1 p = some (.dK []) := p1.frame p _ upd_same no
      have fp1 : F1 p = none := by
        cases q : F1 p with
        | none => rfl
        | some u =>
          rcases p1.fr p (by rw [q]; simp) with w | w | w
          · exact absurd fp w
          · rw [upd_same] at w; cases w
          · exact absurd w no
      have no1 : ¬ Own σ r' p := fun q => no (p1.own p q)
      unfold dispD at hd
      split at hd
      · rename_i w
        have ew : ps = (cs.zip ds).foldl dstep [] := (Option.some.inj hd).symm
        subst ew
        have hc : cs.all keyCB = true := w.2.2.2
        have hkl : (cs.zip xs).length ≤ 15 := by
          rw [List.length_zip]
          have := w.2.1
          omega
        have hl' : cs.length = xs.length := hlen.symm
        refine ⟨hp1, (cs.zip xs).map fun p => (keyC p.1, p.2), ?_, by rw [List.length_map]; exact hkl, ?_⟩
        · rw [List.map_map]; rfl
        · have pp := (lp.trans p1)
          have mm : Post X.K B σ r F H r' F1 (upd H1 p (.dK (mergeK [] ((cs.zip xs).map fun p => (keyC p.1, p.2))))) := by
            refine ⟨st_upd p1.st fp1 no1, pp.mono, fun a o ha hn => ?_, fun a ha => ?_, pp.fr, pp.own⟩
            · rw [upd_ne (ne_of_none ha hp)]
              exact pp.frame a o ha hn
            · by_cases z : a = p
              · subst z; rw [upd_same]; simp
              · rw [upd_ne z]; exact pp.dom a ha
          exact k _ F1 _ mm ⟨p, _, rfl, upd_same, fp1, .inl ⟨_, rfl, disp_merge rl hl' hc .nil⟩, hp⟩
      · cases hd
    · cases e
end
end Ev

end
section
set_option linter.all false
set_option maxHeartbeats 4000000
/-! One dict merged into another, as a display with two stars does it. -/
namespace Ev
open PySem PySem.Spec PyProof.Rows L2
section
variable {prog : Program} {w : World} {K : Type} [DecidableEq K] {knd : KeyKind prog w K} {A : Around} {E : Value → Shared → Prop} {s : Shared}
theorem wpAny_dictPut_pairs {d : Addr} {kvs : List (K × Value)} {k : K} {key v : Value} {Q : Unit → Shared → Prop} (hkey : knd.is k key = true) (hm : s.heap.DictOf knd d kvs)
    (hQ : ∀ h', h'.DictOf knd d (stored kvs k v) → Heap.SameBut d s.heap h' → Q () { s with heap := h' })
    (hsz : kvs.length ≤ sizeLine) :
    wpAny (model prog w) A (dictPut d (knd.hash k) key v) Q E s := by
  obtain ⟨o, es, ep, ho, hc, hd, hk, hp, hn⟩ := hm
  have hes : es.size ≤ sizeLine := by
    have e1 := hp.length
    have e2 : es.toList.length = es.size := by simp
    omega
  unfold dictPut
  refine wpAny_bind (wpAny_dictFind_of hkey ho hd hk ?_)
  have hidx : (es.findIdx? fun e => knd.is k e.key) = kvs.findIdx? fun kv => decide (kv.1 = k) := by
    rw [← hp.findIdx k]; obtain ⟨l⟩ := es; simp
  cases hi : es.findIdx? fun e => knd.is k e.key with
  | some i =>
    refine wpAny_updateDict ho hd (hQ _ ⟨_, _, ep, Heap.get?_update_self _ ho (Obj.isFreed_of_dict (Obj.data_mapDict hd _)),
      hc.mapDict _, Obj.data_mapDict hd _, hk.modify _ _, ?_, ?_⟩ (Heap.SameBut.update ..))
    · rw [stored, if_pos (any_of_findIdx_some (hidx ▸ hi))]
      have hl : (es.toList.findIdx? fun e => knd.is k e.key) = some i := by rw [← hi]; obtain ⟨l⟩ := es; simp
      have := hp.modify hn hl v
      obtain ⟨l⟩ := es
      simpa using this
    · rw [stored, if_pos (any_of_findIdx_some (hidx ▸ hi)), keys_map_store]; exact hn
  | none =>
    have hnot : k ∉ kvs.map (·.1) := not_mem_of_findIdx_none (hidx ▸ hi)
    have hany : ¬ (kvs.any fun kv => decide (kv.1 = k)) = true := by
      rw [List.any_eq_true]; rintro ⟨kv, hkv, he⟩
      exact hnot (List.mem_map.mpr ⟨kv, hkv, of_decide_eq_true he⟩)
    refine wpAny_updateDictKeys (hz := hes) ho hd (hQ _ ⟨_, _, ep + 1, Heap.get?_update_self _ ho (Obj.isFreed_of_dict (Obj.data_mapDictKeys hd _)),
      hc.mapDictKeys _, Obj.data_mapDictKeys hd _, hk.push hkey _, ?_, ?_⟩ (Heap.SameBut.update ..))
    · rw [stored, if_neg hany]
      have := hp.append hkey (knd.hash k) v
      obtain ⟨l⟩ := es
      simpa using this
    · rw [stored, if_neg hany, List.map_append, List.nodup_append]
      refine ⟨hn, by simp, ?_⟩
      intro a ha b hb
      simp only [List.map_cons, List.map_nil, List.mem_singleton] at hb
      subst hb
      exact fun e => hnot (e ▸ ha)
/-- the turns of a merge -/
def mTurns (d a : Addr) : Sem Unit := do
  let sz ← dictEntries a
  let epoch ← dictEpoch a
  let _ ← forIn (List.range sz.size) PUnit.unit fun i (_ : PUnit) => (do
    let l ← dictEntries a
    match l[i]? with
    | some e => do
      holding [e.key, e.val] (dictPut d e.hash e.key e.val)
      let ep ← dictEpoch a
      if (ep != epoch) = true then do
          (unsupported "dict.changed-during-merge" : Sem PUnit)
          pure (ForInStep.yield PUnit.unit)
        else pure (ForInStep.yield PUnit.unit)
    | _ => do
      (unsupported "dict.changed-during-merge" : Sem PUnit)
      pure (ForInStep.yield PUnit.unit) : Sem (ForInStep PUnit))
  pure ()
theorem wpAny_mTurns {d o : Addr} {kvs more : List (K × Value)} {Q : Unit → Shared → Prop} (hdo : d ≠ o)
    (hd : s.heap.DictOf knd d kvs) (ho : s.heap.DictOf knd o more)
    (hQ : ∀ h', h'.DictOf knd d (merged kvs more) → h'.DictOf knd o more → Heap.SameBut d s.heap h' → Q () { s with heap := h' })
    (hsz : kvs.length + more.length ≤ sizeLine) :
    wpAny (model prog w) A (mTurns d o) Q E s := by
  obtain ⟨oo, eso, epo, hoo, hco, hdo', hko, hpo, hno⟩ := id ho
  have hlen : more.length = eso.size := by rw [← hpo.length]; simp
  unfold mTurns
  refine wpAny_bind (wpAny_dictEntries hoo hdo' ?_)
  refine wpAny_bind (wpAny_dictEpoch hoo hdo' ?_)
  refine wpAny_bind ?_
  rw [List.range_eq_range']
  refine wpAny_forIn_list _
      (fun rest _ s' => ∃ h' i, s' = { s with heap := h' } ∧ rest = List.range' i (eso.size - i) ∧ i ≤ eso.size ∧ h'.DictOf knd d (merged kvs (more.take i)) ∧ h'.get? o = some oo ∧ Heap.SameBut d s.heap h')
      _ ?_ ?_ _ _ ⟨s.heap, 0, rfl, by simp, Nat.zero_le _, by simpa [merged] using hd, hoo, Heap.SameBut.refl _ _⟩
  · rintro x rest b s' ⟨h', i, rfl, hr, hi, hd', hoo', hs'⟩
    have hlt : i < eso.size := by
      rcases Nat.lt_or_ge i eso.size with h | h
      · exact h
      · rw [Nat.sub_eq_zero_of_le h] at hr; simp at hr
    obtain ⟨rfl, hrest⟩ : x = i ∧ rest = List.range' (i + 1) (eso.size - (i + 1)) := by
      have e : eso.size - i = (eso.size - (i + 1)) + 1 := by omega
      rw [e, List.range'_succ] at hr
      injection hr with h1 h2
      exact ⟨h1, h2⟩
    refine wpAny_bind (wpAny_dictEntries hoo' hdo' ?_)
    rw [Array.getElem?_eq_getElem hlt]
    obtain ⟨kv, hkv⟩ : ∃ kv, more[x]? = some kv := ⟨more[x]'(by rw [hlen]; exact hlt), List.getElem?_eq_getElem _⟩
    obtain ⟨k, v⟩ := kv
    obtain ⟨hkey, hval⟩ := hpo.get? (e := eso[x]) (by simp [hlt]) hkv
    obtain ⟨k', hkey', hhash⟩ := hko eso[x] (Array.getElem_mem hlt)
    obtain rfl : k' = k := knd.inj _ _ _ hkey' hkey
    show wpAny _ _ (holding [eso[x].key, eso[x].val] (dictPut d eso[x].hash eso[x].key eso[x].val) >>= _) _ _ _
    rw [hhash, hval]
    have hmx : (merged kvs (more.take x)).length ≤ sizeLine := by
      have e1 := merged_length_le kvs (more.take x)
      have e2 : (more.take x).length ≤ more.length := by rw [List.length_take]; omega
      omega
    refine wpAny_bind (wpAny_holding (wpAny_dictPut_pairs (hsz := hmx) hkey hd' fun h'' hd'' hs'' => ?_))
    have hoo'' : h''.get? o = some oo := (hs''.2 o (Ne.symm hdo)).trans hoo'
    refine wpAny_bind (wpAny_dictEpoch hoo'' hdo' ?_)
    rw [if_neg (by simp)]
    exact wpAny_pure ⟨h'', x + 1, rfl, hrest, hlt, by rw [merged_take_succ kvs more x (k', v) hkv]; exact hd'', hoo'', hs'.trans hs''⟩
  · rintro b s' ⟨h', i, rfl, hr, hi, hd', hoo', hs'⟩
    have hin : i = eso.size := by
      rcases Nat.lt_or_ge i eso.size with h | h
      · have e : eso.size - i = (eso.size - (i + 1)) + 1 := by omega
        rw [e, List.range'_succ] at hr
        exact nomatch hr
      · omega
    have ht : more.take i = more := by rw [hin, ← hlen]; exact List.take_length
    rw [ht] at hd'
    exact wpAny_pure (hQ h' hd' ⟨oo, eso, epo, hoo', hco, hdo', hko, hpo, hno⟩ hs')
theorem wpAny_mergeM {d o : Addr} {kvs more : List (K × Value)} {Q : Unit → Shared → Prop} (hdo : d ≠ o) (hoS : (o == sysModules) = false)
    (hd : s.heap.DictOf knd d kvs) (ho : s.heap.DictOf knd o more)
    (hQ : ∀ h', h'.DictOf knd d (merged kvs more) → h'.DictOf knd o more → Heap.SameBut d s.heap h' → Q () { s with heap := h' })
    (hsz : kvs.length + more.length ≤ sizeLine) :
    wpAny (model prog w) A (mergeMapping d (.ref o) false) Q E s := by
  obtain ⟨od, esd, epd, hod, hcd, hdd, hkd, hpd, hnd⟩ := id hd
  obtain ⟨oo, eso, epo, hoo, hco, hdo', hko, hpo, hno⟩ := id ho
  have hT : s.TypeIs (.ref o) "dict" := ⟨oo, hoo, hco.1⟩
  have hnr : ∀ e ∈ eso, ∀ b, e.key ≠ .ref b := fun e he b z => by
    obtain ⟨k, hk, _⟩ := hko e he
    have := knd.byValue k e.key hk
    rw [z] at this
    simp [carriedByValue] at this
  have hturns := wpAny_mTurns (A := A) (E := E) (s := s) hdo hd ho hQ hsz
  unfold mergeMapping
  refine wpAny_bind (wpAny_isInstance hT isSubtype_dict_dict ?_)
  rw [if_pos rfl]
  refine wpAny_bind (wpAny_specialOf (name := Str.ofString "__iter__") hT F.slot_dict_iter.lookup ?_)
  rw [show (some (Value.builtin "dict.__iter__") == some (Value.builtin "dict.__iter__")) = true from rfl]
  refine wpAny_bind (wpAny_pure ?_)
  show wpAny _ _ (if (o == sysModules) = true then _ else _) _ _ _
  rw [if_neg (by rw [hoS]; exact Bool.false_ne_true)]
  refine wpAny_bind (wpAny_dictEntries hod hdd ?_)
  show wpAny _ _ (if esd.isEmpty = true then _ else _) _ _ _
  by_cases hE : esd.isEmpty = true
  · rw [if_pos hE]
    refine wpAny_bind (wpAny_dictEntries hoo hdo' ?_)
    refine wpAny_bind ?_
    rw [← Array.forIn_toList]
    refine wpAny_forIn_list _ (fun rest _ s' => s' = s ∧ ∀ e ∈ rest, ∀ b, e.key ≠ .ref b) _ ?_ ?_ _ _ ⟨rfl, fun e he => hnr e (Array.mem_toList_iff.mp he)⟩
    · rintro x rest b s' ⟨rfl, hr⟩
      have hx := hr x List.mem_cons_self
      split
      · rename_i c hc
        exact absurd hc (hx _)
      · exact wpAny_pure ⟨rfl, fun e he => hr e (List.mem_cons_of_mem _ he)⟩
    · rintro b s' ⟨rfl, _⟩
      simp only [Bool.false_eq_true, if_false]
      exact hturns
  · rw [if_neg hE]
    simp only [Bool.false_eq_true, if_false]
    exact hturns
end
end Ev

end
section
set_option linter.all false
set_option maxHeartbeats 4000000
/-! The same for keys that are tuples. -/
namespace Ev
open PySem PySem.Spec PyProof.Rows L2
section
variable {prog : Program} {w : World} {K : Type} [DecidableEq K] {knd : HeapKind prog w K} {A : Around} {E : Value → Shared → Prop} {s : Shared}
theorem wpAny_dictPut_heap {d a : Addr} {xs : List (K × Addr × Value)} {k : K} {v : Value} {Q : Unit → Shared → Prop} (hu : knd.room A) (hkey : knd.is s.heap k a) (hm : s.heap.DictOfH knd d xs)
    (hQ : ∀ h', h'.DictOfH knd d (storedH xs k a v) → Heap.SameBut d s.heap h' → Q () { s with heap := h' })
    (hsz : xs.length ≤ sizeLine) :
    wpAny (model prog w) A (dictPut d (knd.hash k) (.ref a) v) Q E s := by
  obtain ⟨o, es, ep, ho, hc, hd, he, his, hn⟩ := hm
  unfold dictPut
  refine wpAny_bind (wpAny_dictFind_heap hu hkey ho hd he his hn ?_ ?_)
  · intro hno
    have hnot : k ∉ xs.map (·.1) := not_mem_keys_of_get hno
    refine wpAny_updateDictKeys (hz := by have e := size_of_entries he; omega) ho hd (hQ _ ⟨_, _, ep + 1, Heap.get?_update_self _ ho (Obj.isFreed_of_dict (Obj.data_mapDictKeys hd _)),
      hc.mapDictKeys _, Obj.data_mapDictKeys hd _, ?_, ?_, ?_⟩ (Heap.SameBut.update ..))
    · rw [storedH_new (atKey_none_of_get hno)]
      simp [he, entryOfKey]
    · rw [storedH_new (atKey_none_of_get hno)]
      intro x hx
      rcases List.mem_append.mp hx with hx | hx
      · exact knd.keeps (his x hx) ho hd (Heap.SameBut.update ..)
      · simp only [List.mem_singleton] at hx
        subst hx
        exact knd.keeps hkey ho hd (Heap.SameBut.update ..)
    · rw [storedH_new (atKey_none_of_get hno)]
      rw [List.map_append, List.nodup_append]
      refine ⟨hn, by simp, ?_⟩
      intro x hx y hy
      simp only [List.map_cons, List.map_nil, List.mem_singleton] at hy
      subst hy
      exact fun e => hnot (e ▸ hx)
  · intro j p hj
    refine wpAny_updateDict ho hd (hQ _ ⟨_, _, ep, Heap.get?_update_self _ ho (Obj.isFreed_of_dict (Obj.data_mapDict hd _)),
      hc.mapDict _, Obj.data_mapDict hd _, ?_, ?_, ?_⟩ (Heap.SameBut.update ..))
    · rw [storedH_old (atKey_of_get hn hj)]
      have := modify_map_putAt (entryOfKey knd) (fun e : DictEntry => { e with val := v }) k v (fun _ _ => rfl) hn hj
      rw [← he] at this
      obtain ⟨l⟩ := es
      simpa using this
    · rw [storedH_old (atKey_of_get hn hj)]
      intro x hx
      obtain ⟨y, hy, rfl⟩ := List.mem_map.mp hx
      unfold putAt
      split <;> exact knd.keeps (his y hy) ho hd (Heap.SameBut.update ..)
    · rw [storedH_old (atKey_of_get hn hj)]
      rw [keys_map_putAt]; exact hn
theorem wpAny_mTurns_heap {d o : Addr} {kvs more : List (K × Addr × Value)} {Q : Unit → Shared → Prop} (hu : knd.room A) (hdo : d ≠ o)
    (hd : s.heap.DictOfH knd d kvs) (ho : s.heap.DictOfH knd o more)
    (hQ : ∀ h', h'.DictOfH knd d (storedAllH kvs more) → h'.DictOfH knd o more → Heap.SameBut d s.heap h' → Q () { s with heap := h' })
    (hsz : kvs.length + more.length ≤ sizeLine) :
    wpAny (model prog w) A (mTurns d o) Q E s := by
  obtain ⟨oo, eso, epo, hoo, hco, hdo', heo, hiso, hno⟩ := id ho
  have hlen : eso.size = more.length := size_of_entries heo
  unfold mTurns
  refine wpAny_bind (wpAny_dictEntries hoo hdo' ?_)
  refine wpAny_bind (wpAny_dictEpoch hoo hdo' ?_)
  refine wpAny_bind ?_
  rw [List.range_eq_range']
  refine wpAny_forIn_list _
      (fun rest _ s' => ∃ h' i, s' = { s with heap := h' } ∧ rest = List.range' i (eso.size - i) ∧ i ≤ eso.size ∧ h'.DictOfH knd d (storedAllH kvs (more.take i)) ∧ h'.DictOfH knd o more ∧ h'.get? o = some oo ∧ Heap.SameBut d s.heap h')
      _ ?_ ?_ _ _ ⟨s.heap, 0, rfl, by simp, Nat.zero_le _, by simpa [storedAllH] using hd, ho, hoo, Heap.SameBut.refl _ _⟩
  · rintro x rest b s' ⟨h', i, rfl, hr, hi, hd', ho', hoo', hs'⟩
    have hlt : i < eso.size := by
      rcases Nat.lt_or_ge i eso.size with h | h
      · exact h
      · rw [Nat.sub_eq_zero_of_le h] at hr; simp at hr
    obtain ⟨rfl, hrest⟩ : x = i ∧ rest = List.range' (i + 1) (eso.size - (i + 1)) := by
      have e : eso.size - i = (eso.size - (i + 1)) + 1 := by omega
      rw [e, List.range'_succ] at hr
      injection hr with h1 h2
      exact ⟨h1, h2⟩
    refine wpAny_bind (wpAny_dictEntries hoo' hdo' ?_)
    obtain ⟨⟨k, a, v⟩, hkv⟩ : ∃ kv, more[x]? = some kv := ⟨more[x]'(by rw [← hlen]; exact hlt), List.getElem?_eq_getElem _⟩
    rw [entry_at heo x, hkv]
    show wpAny _ _ (holding [.ref a, v] (dictPut d (knd.hash k) (.ref a) v) >>= _) _ _ _
    have hmx : (storedAllH kvs (more.take x)).length ≤ sizeLine := by
      have e1 := storedAllH_length (more.take x) kvs
      have e2 : (more.take x).length ≤ more.length := by rw [List.length_take]; omega
      omega
    have hkey : knd.is h' k a := by
      obtain ⟨_, _, _, _, _, _, _, his', _⟩ := ho'
      exact his' (k, a, v) (List.mem_of_getElem? hkv)
    refine wpAny_bind (wpAny_holding (wpAny_dictPut_heap (s := { s with heap := h' }) (hsz := hmx) hu hkey hd' fun h'' hd'' hs'' => ?_))
    have hoo'' : h''.get? o = some oo := (hs''.2 o (Ne.symm hdo)).trans hoo'
    refine wpAny_bind (wpAny_dictEpoch hoo'' hdo' ?_)
    rw [if_neg (by simp)]
    exact wpAny_pure ⟨h'', x + 1, rfl, hrest, hlt, by rw [storedAllH_take_succ kvs more x (k, a, v) hkv]; exact hd'', ho'.notHere hd' hdo hs'', hoo'', hs'.trans hs''⟩
  · rintro b s' ⟨h', i, rfl, hr, hi, hd', ho', hoo', hs'⟩
    have hin : i = eso.size := by
      rcases Nat.lt_or_ge i eso.size with h | h
      · have e : eso.size - i = (eso.size - (i + 1)) + 1 := by omega
        rw [e, List.range'_succ] at hr; exact nomatch hr
      · exact Nat.le_antisymm hi h
    refine wpAny_pure (hQ h' ?_ ho' hs')
    rw [hin, hlen, List.take_length] at hd'; exact hd'
theorem wpAny_mergeM_heap {d o : Addr} {kvs more : List (K × Addr × Value)} {Q : Unit → Shared → Prop} (hu : knd.room A) (hdo : d ≠ o) (hoS : (o == sysModules) = false)
    (hd : s.heap.DictOfH knd d kvs) (ho : s.heap.DictOfH knd o more) (hap : kvs ≠ [] ∨ ((∀ x ∈ more, s.TypeIs (.ref x.2.1) "tuple") ∧ (more.map fun x => knd.hash x.1).Nodup))
    (hQ : ∀ h', h'.DictOfH knd d (storedAllH kvs more) → h'.DictOfH knd o more → Heap.SameBut d s.heap h' → Q () { s with heap := h' })
    (hsz : kvs.length + more.length ≤ sizeLine) :
    wpAny (model prog w) A (mergeMapping d (.ref o) false) Q E s := by
  obtain ⟨od, esd, epd, hod, hcd, hdd, hed, hisd, hnd⟩ := id hd
  obtain ⟨oo, eso, epo, hoo, hco, hdo', heo, hiso, hno⟩ := id ho
  have hT : s.TypeIs (.ref o) "dict" := ho.typeIs
  have hturns := wpAny_mTurns_heap (A := A) (E := E) (s := s) hu hdo hd ho hQ hsz
  unfold mergeMapping
  refine wpAny_bind (wpAny_isInstance hT isSubtype_dict_dict ?_)
  rw [if_pos rfl]
  refine wpAny_bind (wpAny_specialOf (name := Str.ofString "__iter__") hT F.slot_dict_iter.lookup ?_)
  rw [show (some (Value.builtin "dict.__iter__") == some (Value.builtin "dict.__iter__")) = true from rfl]
  refine wpAny_bind (wpAny_pure ?_)
  show wpAny _ _ (if (o == sysModules) = true then _ else _) _ _ _
  rw [if_neg (by rw [hoS]; exact Bool.false_ne_true)]
  refine wpAny_bind (wpAny_dictEntries hod hdd ?_)
  show wpAny _ _ (if esd.isEmpty = true then _ else _) _ _ _
  by_cases hE : esd.isEmpty = true
  · rw [if_pos hE]
    have hkvs : kvs = [] := by
      have h0 : esd = #[] := Array.isEmpty_iff.mp hE
      have := size_of_entries hed
      rw [h0] at this
      exact List.length_eq_zero_iff.mp (by simpa using this.symm)
    have hap' := hap.resolve_left fun h => h hkvs
    have hka := keysApart (s := s) heo hap'.1 hap'.2
    refine wpAny_bind (wpAny_dictEntries hoo hdo' ?_)
    refine wpAny_bind ?_
    rw [← Array.forIn_toList]
    refine wpAny_forIn_list _ (fun rest _ s' => s' = s ∧ ∀ e ∈ rest, ∃ b, e.key = .ref b ∧ s.TypeIs (.ref b) "tuple" ∧ (eso.filter (fun x => x.hash == e.hash)).size ≤ 1) _ ?_ ?_ _ _ ⟨rfl, fun e he => ?_⟩
    · rintro x rest b s' ⟨rfl, hr⟩
      obtain ⟨c, hc, ht, hz⟩ := hr x List.mem_cons_self
      rw [hc]
      refine wpAny_bind (wpAny_specialOf (name := Str.ofString "__eq__") ht F.slot_tuple_eq.lookup ?_)
      rw [if_pos (by rfl), if_neg (by omega)]
      exact wpAny_pure ⟨rfl, fun e he => hr e (List.mem_cons_of_mem _ he)⟩
    · rintro b s' ⟨rfl, _⟩
      simp only [Bool.false_eq_true, if_false]
      exact hturns
    · rcases hka e he with h | ⟨b, h1, h2, h3⟩
      · exfalso
        rw [heo] at he
        obtain ⟨x, hx, rfl⟩ := List.mem_map.mp he
        simp [entryOfKey, carriedByValue] at h
      · exact ⟨b, h1, h2, h3⟩
  · rw [if_neg hE]
    simp only [Bool.false_eq_true, if_false]
    exact hturns
end
end Ev

end
section
set_option linter.all false
set_option maxHeartbeats 4000000
/-! The display of a dict and one pair more. -/
namespace Ev
open PySem PySem.Spec PyProof.Rows L2
section
variable {prog : Program} {w : World} {A : Around} {E : Value → Shared → Prop} {s : Shared}
theorem wpAny_star {md mk mv : Sem Value} {Q : Value → Shared → Prop}
    (h : wpAny (model prog w) A md (fun m s1 => ∀ E', wpAny (model prog w) A (mergeMapping s.heap.objs.size m false) (fun _ s2 =>
        wpAny (model prog w) A (subDict [(mk, mv)]) (fun sub s3 => ∀ E', wpAny (model prog w) A (mergeMapping s.heap.objs.size (.ref sub) false) (fun _ s4 => Q (.ref s.heap.objs.size) s4) E' s3) E s2) E' s1) E
      { s with heap := s.heap.push { cls := .type "dict", data := .dict #[] } }) :
    wpAny (model prog w) A (dictDisplay [(none, md), (some mk, mv)]) Q E s := by
  unfold dictDisplay
  dsimp only
  simp only [List.forIn_cons, List.forIn_nil]
  refine wpAny_bind ?_
  refine wpAny_bind ?_
  show wpAny _ _ (bind (if ([] : List (Sem Value × Sem Value)).isEmpty = true then pure none else _) _) _ _ _
  rw [if_pos (c := ([] : List (Sem Value × Sem Value)).isEmpty = true) rfl]
  refine wpAny_bind (wpAny_pure ?_)
  show wpAny _ _ (bind (alloc _) _) _ _ _
  refine wpAny_bind (wpAny_alloc ?_)
  refine wpAny_bind (wpAny_holding (wpAny_mono h (fun m s1 hm => ?_) fun _ _ e => e))
  refine wpAny_bind (wpAny_onRaise (wpAny_tryCatch (wpAny_onRaise (wpAny_holding (wpAny_mono (hm _) (fun _ s2 h2 => ?_) fun _ _ e => e)))))
  refine wpAny_pure ?_
  dsimp only
  refine wpAny_bind ?_
  rw [if_neg (show ¬ (([] ++ [(mk, mv)] : List (Sem Value × Sem Value)).length == 17) = true by simp)]
  refine wpAny_pure ?_
  dsimp only
  refine wpAny_pure ?_
  dsimp only
  refine wpAny_bind ?_
  rw [if_neg (show ¬ ([] ++ [(mk, mv)] : List (Sem Value × Sem Value)).isEmpty = true by simp)]
  refine wpAny_bind (wpAny_holding (wpAny_mono h2 (fun sub s3 h3 => ?_) fun _ _ e => e))
  refine wpAny_bind (wpAny_onRaise (wpAny_holding (wpAny_mono (h3 _) (fun _ s4 h4 => ?_) fun _ _ e => e)))
  refine wpAny_pure ?_
  exact wpAny_pure h4
end
end Ev

end
section
set_option linter.all false
set_option maxHeartbeats 4000000
namespace Ev
open PySem PySem.Spec PyProof.Rows L2
/-- {**d, k: v}, with keys ints and texts -/
def tStarK (td tk tv : TE) : TE := fun σ H Q => ∀ p, H p = none → td σ (upd H p (.dK [])) fun x H1 => H1 p = some (.dK []) ∧ ∃ a kvs, x = .ref a ∧ a ≠ p ∧ Rd H1 a (.dK kvs) ∧ kvs.length < sizeLine ∧
  ∀ q, H1 q = none → q ≠ p → tk σ (upd (upd H1 p (.dK kvs)) q (.dK [])) fun y H2 => tv σ H2 fun z H3 => H3 p = some (.dK kvs) ∧ H3 q = some (.dK []) ∧ ∃ k, y = kV k ∧ Q (.ref p) (upd (upd H3 q (.dK [(k, z)])) p (.dK (putK kvs k z)))
theorem pe_starK {X : Cx} {pos : Pos} {ed ek ev : Expr} {td tk tv : TE} (hd : PE X ed td) (hk : PE X ek tk) (hv : PE X ev tv) : PE X (.Dict [none, some ek] [ed, ev] pos) (tStarK td tk tv) := by
  refine ⟨fun pins s σ H Q I q => ?_⟩
  have hn := I.hok.fresh (Nat.le_refl s.heap.objs.size)
  have I1 := I.laid (a := s.heap.objs.size) (o := .dK []) (h' := s.heap.push { cls := .type "dict", data := .dict #[] }) (t' := s.toks) (fun _ _ q => Heap.get?_push_of_some _ q) (Nat.le_refl _) (dk_empty s.heap I.big)
  rw [arm_eval_Dict]
  refine wpAny_bind (wpAny_standAt ?_)
  refine wpAny_star ?_
  refine wpAny_bind (thn (hd.run pins _ σ _ _ I1 (q _ hn)) fun u s1 ⟨x, H1, I2, rx, q1⟩ => ?_)
  obtain ⟨ep, a, kvs, rfl, hap, ra, hl, q2⟩ := q1
  cases (show u = Value.ref a from rx)
  refine wpAny_bind (wpAny_standAt (wpAny_pure fun E' => ?_))
  obtain ⟨z, hdm, vs, rel, dd⟩ := dk_rd I2.hok ra
  obtain ⟨z0, hd0, vs0, r0, dd0⟩ := dk_of I2.hok ep
  cases r0
  have hvl : vs.length = kvs.length := rel.length.symm
  refine wpAny_mergeM (knd := mixKind X.prog X.w) (Ne.symm hap) hdm dd0 dd (fun h' d1 d2 hs => ?_) (by rw [List.length_nil]; omega)
  have hnd : (vs.map (·.1)).Nodup := let ⟨_, _, _, _, _, _, _, _, hn⟩ := dd; hn
  rw [merged_nil_of_nodup vs hnd] at d1
  have he : ∃ q, h'.get? s.heap.objs.size = some q := let ⟨q, _, _, hq, _⟩ := d1; ⟨q, hq⟩
  have I3 := d_write (t' := s1.toks) I2 (by rw [ep]; exact True.intro) hs he (dk_new z hd0 rel d1)
  obtain ⟨p, hp⟩ : ∃ p, p = s.heap.objs.size := ⟨_, rfl⟩
  rw [← hp] at ep hap q2 I3 d1 hs hd0 ⊢
  have hfr := I3.hok.fresh (Nat.le_refl h'.objs.size)
  have hqp : h'.objs.size ≠ p := fun e => by
    rw [e, upd_same] at hfr
    exact nomatch hfr
  have hq1 : H1 h'.objs.size = none := by
    rw [upd_ne hqp] at hfr
    exact hfr
  have I4 := I3.laid (a := h'.objs.size) (o := .dK []) (h' := h'.push { cls := .type "dict", data := .dict #[] }) (t' := s1.toks) (fun _ _ q => Heap.get?_push_of_some _ q) (Nat.le_refl _) (dk_empty h' I3.big)
  obtain ⟨q0, hq0⟩ : ∃ q0, q0 = h'.objs.size := ⟨_, rfl⟩
  have q3 := q2 _ hq1 hqp
  refine wpAny_subDict (knd := mixKind X.prog X.w) (s := { s1 with heap := h' }) (Nat.le_add_left 1 14) ?_
  refine thn ((pps_cons hk hv pps_nil).run pins _ σ _ (fun ps H3 => match ps with
    | [(y, z)] => H3 p = some (.dK kvs) ∧ H3 h'.objs.size = some (.dK []) ∧ ∃ k, y = kV k ∧ Q (.ref p) (upd (upd H3 h'.objs.size (.dK [(k, z)])) p (.dK (putK kvs k z)))
    | _ => False) I4 q3) fun ws s2 ⟨ps, H3, I5, rw5, q5⟩ => ?_
  match ps, q5, rw5 with
  | [], q5, _ => exact q5.elim
  | _ :: _ :: _, q5, _ => exact q5.elim
  | [(y, z)], q5, rw5 =>
    obtain ⟨e1, e2, k, ek', q6⟩ := q5
    subst ek'
    obtain ⟨rs, cr, rk⟩ := carries_of (P := X.prog) (w := X.w) (kvs := [(k, z)]) rw5
    obtain ⟨zq, hdq, vsq, rq, ddq⟩ := dk_of I5.hok e2
    cases rq
    refine ⟨rs, cr, ddq, fun h2 dd2 hs2 => fun E2 => ?_⟩
    have he2 : ∃ q, h2.get? h'.objs.size = some q := let ⟨q, _, _, hq, _⟩ := dd2; ⟨q, hq⟩
    have hz1 : ([(k, z)] : List (Key × V)).length ≤ sizeLine := by
      rw [sizeLine_eq]
      show 1 ≤ _
      omega
    have hrl : rs.length = 1 := by
      have a2 := rk.length
      rw [List.length_singleton] at a2
      exact a2.symm
    have hnd2 : (rs.map (·.1)).Nodup := by
      obtain ⟨r, hr⟩ := List.length_eq_one_iff.mp hrl
      rw [hr]
      simp
    have dd2' : h2.DictOf (mixKind X.prog X.w) h'.objs.size rs := by
      have hm := merged_nil_of_nodup rs hnd2
      rw [hm] at dd2
      exact dd2
    have I6 := d_write (t' := s2.toks + ws.length) I5 (by rw [e2]; exact True.intro) hs2 he2 (dk_new hz1 hdq rk dd2')
    have e1' : upd H3 h'.objs.size (.dK [(k, z)]) p = some (.dK kvs) := by rw [upd_ne (Ne.symm hqp)]; exact e1
    obtain ⟨zp, hdp, vsp, rp, ddp⟩ := dk_of I6.hok e1'
    have hsz : vsp.length + rs.length ≤ sizeLine := by
      have a1 := rp.length
      have a2 := rk.length
      rw [List.length_singleton] at a2
      omega
    refine wpAny_mergeM (knd := mixKind X.prog X.w) (s := { s2 with heap := h2, toks := s2.toks + ws.length }) (Ne.symm hqp) hdq ddp dd2' (fun h3 d3 _ hs3 => ?_) hsz
    have he3 : ∃ q, h3.get? p = some q := let ⟨q, _, _, hq, _⟩ := d3; ⟨q, hq⟩
    have hput : KV (putK kvs k z) (merged vsp rs) := by
      have := KV.merge rk rp
      exact this
    have hz3 : (putK kvs k z).length ≤ sizeLine := by
      have := length_putK kvs k z
      omega
    exact ⟨.ref p, _, d_write (t' := s2.toks + ws.length) I6 (by rw [e1']; exact True.intro) hs3 he3 (dk_new hz3 hdp hput d3), rfl, q6⟩
end Ev

end
section
set_option linter.all false
set_option maxHeartbeats 4000000
namespace Ev
open PySem PySem.Spec PyProof.Rows L2
theorem dt_new {P : Program} {w : World} {H' : Hp} {h' : Heap} {a : Addr} {kvs : List (List Key × V)} {xs : List (List Key × Addr × Value)} (z : kvs.length ≤ sizeLine) (hd : (a == sysModules) = false) (rel : KT H' kvs xs) (dd : h'.DictOfH (tupleKind (mixKind P w)) a xs) :
    ObjOk P w H' h' a (.dT kvs) := by
  obtain ⟨q, es, ep, hq, h2, h3, h4, _, h5⟩ := dd
  exact ⟨z, hd, xs, rel, q, es, ep, hq, h2, h3, h4, h5⟩
theorem upd_tup {H : Hp} {p : Addr} {kvs qvs : List (List Key × V)} (e : H p = some (.dT kvs)) : ∀ b ys, H b = some (.tup ys) → upd H p (.dT qvs) b = some (.tup ys) := fun b ys eb => by
  rw [upd_ne (ne_of eb e (fun z => nomatch z))]
  exact eb
theorem KT.keys {H : Hp} {kvs : List (List Key × V)} {xs : List (List Key × Addr × Value)} (r : KT H kvs xs) : kvs.map (·.1) = xs.map (·.1) := by
  induction r with
  | nil => rfl
  | @cons p q ps qs h t ih => rw [List.map_cons, List.map_cons, ih, h.1]
/-- {**d, k: v}, with keys tuples -/
def tStarT (X : Cx) (td tk tv : TE) : TE := fun σ H Q => ∀ p, H p = none → td σ (upd H p (.dT [])) fun x H1 => H1 p = some (.dT []) ∧ ∃ a kvs, x = .ref a ∧ a ≠ p ∧ Rd H1 a (.dT kvs) ∧ kvs.length < sizeLine ∧ (kvs.map fun kv => tupleKeyHash (mixKind X.prog X.w) kv.1).Nodup ∧
  ∀ q, H1 q = none → q ≠ p → tk σ (upd (upd H1 p (.dT kvs)) q (.dT [])) fun y H2 => tv σ H2 fun z H3 => H3 p = some (.dT kvs) ∧ H3 q = some (.dT []) ∧ ∃ b ks, y = .ref b ∧ H3 b = some (.tup (ks.map kV)) ∧ Q (.ref p) (upd (upd H3 q (.dT [(ks, z)])) p (.dT (putK kvs ks z)))
theorem pe_starT {X : Cx} {pos : Pos} {ed ek ev : Expr} {td tk tv : TE} (hu : X.A.units < cLine) (hd : PE X ed td) (hk : PE X ek tk) (hv : PE X ev tv) : PE X (.Dict [none, some ek] [ed, ev] pos) (tStarT X td tk tv) := by
  refine ⟨fun pins s σ H Q I q => ?_⟩
  have hn := I.hok.fresh (Nat.le_refl s.heap.objs.size)
  have I1 := I.laid (a := s.heap.objs.size) (o := .dT []) (h' := s.heap.push { cls := .type "dict", data := .dict #[] }) (t' := s.toks) (fun _ _ q => Heap.get?_push_of_some _ q) (Nat.le_refl _) (dt_empty s.heap I.big)
  rw [arm_eval_Dict]
  refine wpAny_bind (wpAny_standAt ?_)
  refine wpAny_star ?_
  refine wpAny_bind (thn (hd.run pins _ σ _ _ I1 (q _ hn)) fun u s1 ⟨x, H1, I2, rx, q1⟩ => ?_)
  obtain ⟨ep, a, kvs, rfl, hap, ra, hl, hnd, q2⟩ := q1
  cases (show u = Value.ref a from rx)
  refine wpAny_bind (wpAny_standAt (wpAny_pure fun E' => ?_))
  obtain ⟨z, hdm, xs, rel, dd⟩ := dt_rd I2.hok ra
  obtain ⟨z0, hd0, xs0, r0, dd0⟩ := dt_of I2.hok ep
  cases r0
  have hvl : xs.length = kvs.length := (Paired.length rel).symm
  have hty : ∀ x ∈ xs, s1.TypeIs (.ref x.2.1) "tuple" := fun x hx => by
    obtain ⟨_, _, _, _, _, _, _, his, _⟩ := dd
    exact IsTupleKey.typeIs (his x hx)
  have hkeys := KT.keys rel
  have hnd' : (xs.map fun x => (tupleKind (mixKind X.prog X.w)).hash x.1).Nodup := by
    have e : (xs.map fun x => (tupleKind (mixKind X.prog X.w)).hash x.1) = (xs.map (·.1)).map (tupleKeyHash (mixKind X.prog X.w)) := by
      rw [List.map_map]
      rfl
    rw [e, ← hkeys, List.map_map]
    exact hnd
  have hno : (xs.map (·.1)).Nodup := Heap.DictOfH.nodup dd
  refine wpAny_mergeM_heap (knd := tupleKind (mixKind X.prog X.w)) hu (Ne.symm hap) hdm dd0 dd (.inr ⟨hty, hnd'⟩) (fun h' d1 d2 hs => ?_) (by rw [List.length_nil]; omega)
  rw [storedAllH_nil_of_nodup xs hno] at d1
  have he : ∃ q, h'.get? s.heap.objs.size = some q := let ⟨q, _, _, hq, _⟩ := d1; ⟨q, hq⟩
  have I3 := d_write (t' := s1.toks) I2 (by rw [ep]; exact True.intro) hs he (dt_new z hd0 (rel.keeps (upd_tup (qvs := kvs) ep)) d1)
  obtain ⟨p, hp⟩ : ∃ p, p = s.heap.objs.size := ⟨_, rfl⟩
  rw [← hp] at ep hap q2 I3 d1 hs hd0 ⊢
  have hfr := I3.hok.fresh (Nat.le_refl h'.objs.size)
  have hqp : h'.objs.size ≠ p := fun e => by
    rw [e, upd_same] at hfr
    exact nomatch hfr
  have hq1 : H1 h'.objs.size = none := by
    rw [upd_ne hqp] at hfr
    exact hfr
  have I4 := I3.laid (a := h'.objs.size) (o := .dT []) (h' := h'.push { cls := .type "dict", data := .dict #[] }) (t' := s1.toks) (fun _ _ q => Heap.get?_push_of_some _ q) (Nat.le_refl _) (dt_empty h' I3.big)
  have q3 := q2 _ hq1 hqp
  refine wpAny_subDict_any (s := { s1 with heap := h' }) (Nat.le_add_left 1 14) ?_
  refine thn ((pps_cons hk hv pps_nil).run pins _ σ _ (fun ps H3 => match ps with
    | [(y, z)] => H3 p = some (.dT kvs) ∧ H3 h'.objs.size = some (.dT []) ∧ ∃ b ks, y = .ref b ∧ H3 b = some (.tup (ks.map kV)) ∧ Q (.ref p) (upd (upd H3 h'.objs.size (.dT [(ks, z)])) p (.dT (putK kvs ks z)))
    | _ => False) I4 q3) fun ws s2 ⟨ps, H3, I5, rw5, q5⟩ => ?_
  match ps, q5, rw5 with
  | [], q5, _ => exact q5.elim
  | _ :: _ :: _, q5, _ => exact q5.elim
  | [(y, z)], q5, rw5 =>
    obtain ⟨e1, e2, b, ks, rfl, e3, q6⟩ := q5
    obtain ⟨u2, ew⟩ : ∃ u2, ws = [(.ref b, u2)] ∧ RelV z u2 := by
      cases rw5 with
      | @cons _ w1 _ w2 h1 h2 =>
        cases h2
        obtain ⟨h3, h4⟩ := h1
        exact ⟨w1.2, by rw [show w1 = (w1.1, w1.2) from rfl, show w1.1 = Value.ref b from h3], h4⟩
    obtain ⟨ew, rz⟩ := ew
    subst ew
    obtain ⟨zq, hdq, xq, rq, ddq⟩ := dt_of I5.hok e2
    cases rq
    have kb := key_of I5.hok e3
    show wpAny _ _ (storeAll h'.objs.size [(Value.ref b, u2)]) _ _ _
    unfold storeAll
    rw [List.forIn_cons]
    refine wpAny_bind (wpAny_bind (wpAny_dictSet_heap (hsz := Nat.zero_le _) (knd := tupleKind (mixKind X.prog X.w)) hu kb ddq fun h2 dd2 hs2 => wpAny_pure ?_))
    dsimp only
    rw [List.forIn_nil]
    refine wpAny_pure fun E2 => ?_
    have es : storedH ([] : List (List Key × Addr × Value)) ks b u2 = [(ks, b, u2)] := rfl
    rw [es] at dd2
    have he2 : ∃ q, h2.get? h'.objs.size = some q := let ⟨q, _, _, hq, _⟩ := dd2; ⟨q, hq⟩
    have hz1 : ([(ks, z)] : List (List Key × V)).length ≤ sizeLine := by
      rw [sizeLine_eq]
      show 1 ≤ _
      omega
    have rk : KT H3 [(ks, z)] [(ks, b, u2)] := .cons ⟨rfl, e3, rz⟩ .nil
    have I6 := d_write (t' := s2.toks + (tupleKind (mixKind X.prog X.w)).draws ks) I5 (by rw [e2]; exact True.intro) hs2 he2 (dt_new hz1 hdq (rk.keeps (upd_tup (qvs := [(ks, z)]) e2)) dd2)
    have e1' : upd H3 h'.objs.size (.dT [(ks, z)]) p = some (.dT kvs) := by rw [upd_ne (Ne.symm hqp)]; exact e1
    have e3' : upd H3 h'.objs.size (.dT [(ks, z)]) b = some (.tup (ks.map kV)) := upd_tup (qvs := [(ks, z)]) e2 _ _ e3
    obtain ⟨zp, hdp, xp, rp, ddp⟩ := dt_of I6.hok e1'
    obtain ⟨zq2, _, xq2, rq2, ddq2⟩ := dt_of I6.hok (a := h'.objs.size) (kvs := [(ks, z)]) upd_same
    have hsz : xp.length + [(ks, b, u2)].length ≤ sizeLine := by
      have a1 := Paired.length rp
      rw [List.length_singleton]
      omega
    have hty2 : ∀ x ∈ [(ks, b, u2)], ({ s2 with heap := h2, toks := s2.toks + (tupleKind (mixKind X.prog X.w)).draws ks } : Shared).TypeIs (.ref x.2.1) "tuple" := fun x hx => by
      obtain ⟨_, _, _, _, _, _, _, his, _⟩ := dd2
      exact IsTupleKey.typeIs (his x hx)
    refine wpAny_mergeM_heap (knd := tupleKind (mixKind X.prog X.w)) (s := { s2 with heap := h2, toks := s2.toks + (tupleKind (mixKind X.prog X.w)).draws ks }) hu (Ne.symm hqp) hdq ddp dd2 (.inr ⟨hty2, by simp⟩) (fun h3 d3 _ hs3 => ?_) hsz
    have he3 : ∃ q, h3.get? p = some q := let ⟨q, _, _, hq, _⟩ := d3; ⟨q, hq⟩
    have hput : KT (upd H3 h'.objs.size (.dT [(ks, z)])) (putK kvs ks z) (storedH xp ks b u2) := rp.put ks e3' rz
    have hz3 : (putK kvs ks z).length ≤ sizeLine := by
      have := length_putK kvs ks z
      omega
    exact ⟨.ref p, _, d_write (t' := s2.toks + (tupleKind (mixKind X.prog X.w)).draws ks) I6 (by rw [e1']; exact True.intro) hs3 he3 (dt_new hz3 hdp (hput.keeps (upd_tup (qvs := putK kvs ks z) e1')) d3), rfl, q6⟩
end Ev

end
section
set_option linter.all false
set_option maxHeartbeats 4000000
/-! Empty dicts; a dict and one pair more; looking up. -/
namespace Ev
open PySem PySem.Spec PyProof.Rows L2
section
variable {K : Fg} {B : Bs} {σ : L2.St} {r r1 : Env} {F H F1 H1 : Hp}
/-- a new address that no slot has -/
theorem away {p : Addr} {o : HO} (pp : Post K B σ r F H r1 F1 H1) (hp : H p = some o) (fp : F p = none) (no : ¬ Own σ r p) : H1 p = some o ∧ F1 p = none ∧ ¬ Own σ r1 p := by
  refine ⟨pp.frame p _ hp no, ?_, fun q => no (pp.own p q)⟩
  cases q : F1 p with
  | none => rfl
  | some u =>
    rcases pp.fr p (by rw [q]; simp) with w | w | w
    · exact absurd fp w
    · rw [hp] at w; cases w
    · exact absurd w no
theorem post_upd {p : Addr} {o : HO} (pp : Post K B σ r F H r1 F1 H1) (hp : H p = none) (fp : F1 p = none) (no : ¬ Own σ r1 p) : Post K B σ r F H r1 F1 (upd H1 p o) := by
  refine ⟨st_upd pp.st fp no, pp.mono, fun a o ha hn => ?_, fun a ha => ?_, pp.fr, pp.own⟩
  · rw [upd_ne (ne_of_none ha hp)]
    exact pp.frame a o ha hn
  · by_cases z : a = p
    · subst z; rw [upd_same]; simp
    · rw [upd_ne z]; exact pp.dom a ha
theorem new_away {p : Addr} {o : HO} (st : StR K B F H σ r) (hp : H p = none) : F p = none ∧ ¬ Own σ r p := by
  refine ⟨?_, fun q => ?_⟩
  · cases q : F p with
    | none => rfl
    | some u =>
      rw [st.sub _ _ q] at hp
      cases hp
  · obtain ⟨o, eo, _⟩ := st.ownH q
    rw [hp] at eo
    cases eo
/-- a dict with keys by value, not at p -/
theorem deref_dic {H0 : Hp} {t : TV} {x : V} {ps : List (D × D)} {p : Addr} (s : StR K B F H σ r) (h : TvR K H0 σ F H t x) (e : deref r t = some (.dict ps)) (hk : ps.all (fun q => isKey q.1) = true) (h0 : H0 p ≠ none) (fp : F p = none) (no : ¬ Own σ r p) :
    ∃ a kvs, x = .ref a ∧ H a = some (.dK kvs) ∧ RpK K F kvs ps ∧ a ≠ p := by
  have rp : ∀ x, Rp K F x (.dict ps) → ∃ a kvs, x = .ref a ∧ H a = some (.dK kvs) ∧ RpK K F kvs ps ∧ a ≠ p := fun x h => by
    cases h with
    | dic h1 h2 => exact ⟨_, _, rfl, s.sub _ _ h1, h2, fun z => by rw [z, fp] at h1; cases h1⟩
    | dit h1 h2 => simp [isKey] at hk
    | scr h1 h2 => simp [isKey] at hk
  have ob : ∀ o, ObR K F o (.dict ps) → ∃ kvs, o = .dK kvs ∧ RpK K F kvs ps := fun o h => by
    rcases h with ⟨kvs, e3, h2⟩ | ⟨kvs, qs, e0, e3, h2⟩
    · exact ⟨kvs, e3, h2⟩
    · subst e0
      simp [isKey] at hk
  cases t with
  | d v =>
    cases (show some v = some _ from e)
    exact rp x h
  | f v =>
    cases (show some v = some _ from e)
    obtain ⟨q, o, e0, e1, _, e3, e4⟩ := h
    obtain ⟨kvs, e5, h2⟩ := ob o e3
    subst e5
    exact ⟨q, kvs, e0, e1, h2, fun z => h0 (by rw [← z]; exact e4)⟩
  | s i =>
    have h : σ[i]? = some (some x) := h
    have oc : ∀ c, (r[i]? = some (.own c) ∨ r[i]? = some (.bor c)) → c = .dict ps → ∃ a kvs, x = .ref a ∧ H a = some (.dK kvs) ∧ RpK K F kvs ps ∧ a ≠ p := fun c hc ec => by
      subst ec
      obtain ⟨a, o, e1, e2, _, e4⟩ := s.obj i _ hc
      rw [h] at e1
      cases e1
      obtain ⟨kvs, e5, h2⟩ := ob o e4
      subst e5
      exact ⟨a, kvs, rfl, e2, h2, fun z => no ⟨i, _, hc, by rw [← z]; exact h⟩⟩
    unfold deref at e
    simp only at e
    split at e
    · rename_i c hc
      cases e
      obtain ⟨y, e1, e2⟩ := s.val i _ hc
      rw [h] at e1
      cases e1
      exact rp _ e2
    · rename_i c hc
      exact oc c (.inl hc) (by cases e; rfl)
    · rename_i c hc
      exact oc c (.inr hc) (by cases e; rfl)
    · cases e
theorem RpK.length : ∀ {kvs : List (Key × V)} {ps : List (D × D)}, RpK K F kvs ps → kvs.length = ps.length
  | _, _, .nil => rfl
  | _, _, .cons _ r => by rw [List.length_cons, List.length_cons, RpK.length r]
theorem RpT.length : ∀ {kvs : List (List Key × V)} {ps : List (D × D)}, RpT K F kvs ps → kvs.length = ps.length
  | _, _, .nil => rfl
  | _, _, .cons _ r => by rw [List.length_cons, List.length_cons, RpT.length r]
end
section
variable {X : Cx} {B : Bs} {o e k d ed ek ev : Expr} {pos : Pos} {f g h : Env → Res TV}
theorem rd_emp (t : Bool) : PE X (.Dict [] [] pos) (RdE X.K B fun r => .ok (.f (.dict (if t = true then [markT] else []))) r) := by
  cases t
  · refine PE.imp pe_dnewK fun σ H Q ⟨F, r, st, tv, r', e, c⟩ p hp => ?_
    cases e
    have lp := laid (o := .dK []) st hp
    exact c _ F _ lp ⟨p, _, rfl, upd_same, (new_away (o := .dK []) st hp).1, .inl ⟨_, rfl, .nil⟩, hp⟩
  · refine PE.imp pe_dnewT fun σ H Q ⟨F, r, st, tv, r', e, c⟩ p hp => ?_
    cases e
    have lp := laid (o := .dT []) st hp
    exact c _ F _ lp ⟨p, _, rfl, upd_same, (new_away (o := .dT []) st hp).1, .inr ⟨_, _, rfl, rfl, .nil⟩, hp⟩
theorem rd_sdk (hd : PE X ed (RdE X.K B f)) (hk : PE X ek (RdE X.K B g)) (hv : PE X ev (RdE X.K B h)) :
    PE X (.Dict [none, some ek] [ed, ev] pos) (RdE X.K B fun r => (f r).bind fun x r1 => match deref r1 x with
      | some u => (g r1).bind fun y r2 => (h r2).bind fun z r3 => (solidR r3 z).bind fun w r4 => match deref r4 y with
        | some kd => .of ((mrgK u kd w).map .f) r4
        | none => .stuck
      | none => .stuck) := by
  refine PE.imp (pe_starK hd hk hv) fun σ H Q ⟨F, r, st, t, r', e, c⟩ p hp => ?_
  obtain ⟨x, r1, e1, e⟩ := bind_inv e
  split at e
  · rename_i u hu
    obtain ⟨y, r2, e2, e⟩ := bind_inv e
    obtain ⟨z, r3, e3, e⟩ := bind_inv e
    obtain ⟨w, r4, e4, e⟩ := bind_inv e
    split at e
    · rename_i kd hkd
      obtain ⟨e5, rfl⟩ := of_inv e
      rw [Option.map_eq_some_iff] at e5
      obtain ⟨rd, e5, rfl⟩ := e5
      unfold mrgK at e5
      split at e5
      · rename_i ps ky vl
        split at e5
        · rename_i hc
          simp only [Bool.and_eq_true, decide_eq_true_eq] at hc
          obtain ⟨⟨c1, c2⟩, c3⟩ := hc
          cases e5
          obtain ⟨fp, no⟩ := new_away (o := .dK []) st hp
          have lp := laid (o := .dK []) st hp
          refine ⟨F, r, lp.st, x, r1, e1, fun xv F1 H1 p1 t1 => ?_⟩
          obtain ⟨hp1, fp1, no1⟩ := away p1 upd_same fp no
          obtain ⟨a, kvs, ea, ha, rk, hap⟩ := deref_dic p1.st t1 hu c2 (p := p) (by rw [upd_same]; simp) fp1 no1
          have hl : kvs.length < sizeLine := by rw [rk.length, ← szl]; exact c3
          refine ⟨hp1, a, kvs, ea, hap, .inl ha, hl, fun q hq hqp => ?_⟩
          have P1 := post_upd (o := .dK kvs) (lp.trans p1) hp fp1 no1
          have hq' : upd H1 p (.dK kvs) q = none := by rw [upd_ne hqp]; exact hq
          obtain ⟨fq, nq⟩ := new_away (o := .dK []) P1.st hq'
          have lq := laid (o := .dK []) P1.st hq'
          refine ⟨F1, r1, lq.st, y, r2, e2, fun yv F2 H2 p2 t2 => ⟨F2, r2, p2.st, z, r3, e3, fun zv F3 H3 p3 t3 => ?_⟩⟩
          obtain ⟨F4, p4, h4, _⟩ := solid_post p2.st p3 t3 (solidR_ok e4)
          have p24 := p2.trans p4
          have hpq : upd (upd H1 p (.dK kvs)) q (.dK []) p = some (.dK kvs) := by rw [upd_ne (Ne.symm hqp), upd_same]
          obtain ⟨hp4, fp4, no4⟩ := away p24 hpq fp1 no1
          obtain ⟨hq4, fq4, nq4⟩ := away p24 upd_same fq nq
          obtain ⟨kk, rfl⟩ := key_of_isKey c1
          have t2' := t2.keep p4 (p2.ne lq.st)
          have ey := rq_key (deref_rq p4.st t2' hkd)
          refine ⟨hp4, hq4, kk, ey, ?_⟩
          have hHq : H q = none := Classical.byContradiction fun n => (lp.trans p1).dom q n hq
          have P4 := post_upd (o := .dK [(kk, zv)]) ((P1.trans lq).trans p24) hHq fq4 nq4
          have P5 := post_upd (o := .dK (putK kvs kk zv)) P4 hp fp4 no4
          exact c _ F4 _ P5 ⟨p, _, rfl, upd_same, fp4, .inl ⟨_, rfl, (rk.mono p24.mono).put kk h4⟩, hp⟩
        · cases e5
      · cases e5
    · cases e
  · cases e
end
end Ev

end
section
set_option linter.all false
set_option maxHeartbeats 4000000
/-! Dicts whose keys are tuples. -/
namespace Ev
open PySem PySem.Spec PyProof.Rows L2
theorem keysEq_D : ∀ k k' : List Key, keysEq (k.map keyD) (k'.map keyD) = decide (k = k')
  | [], [] => rfl
  | [], _ :: _ => rfl
  | _ :: _, [] => rfl
  | a :: k, b :: k' => by
    show (Ev.keyIs (keyD a) (keyD b) && keysEq (k.map keyD) (k'.map keyD)) = _
    rw [keyIs_D, keysEq_D k k']
    by_cases h1 : a = b
    · by_cases h2 : k = k'
      · simp [h1, h2]
      · simp [h1, h2]
    · simp [h1]
theorem tkIs_D (k k' : List Key) : tkIs (keyTD k) (k'.map keyD) = decide (k = k') := keysEq_D k k'
section
variable {K : Fg} {F : Hp}
theorem RpT.look (k : List Key) : ∀ {kvs : List (List Key × V)} {ps : List (D × D)}, RpT K F kvs ps → (lookT ps (k.map keyD) = none ∧ valV kvs k = none) ∨ ∃ d v, lookT ps (k.map keyD) = some d ∧ valV kvs k = some v ∧ Rp K F v d
  | _, _, .nil => .inl ⟨rfl, rfl⟩
  | _, _, .cons (k := k') (v := v) (d := d) (kvs := kvs) (ps := ps) h r => by
    by_cases e : k' = k
    · subst e
      refine .inr ⟨d, v, ?_, valV_pos rfl, h⟩
      show (if tkIs (keyTD k') (k'.map keyD) = true then some d else _) = _
      rw [tkIs_D, decide_eq_true rfl, if_pos rfl]
    · have e1 : lookT ((keyTD k', d) :: ps) (k.map keyD) = lookT ps (k.map keyD) := by
        show (if tkIs (keyTD k') (k.map keyD) = true then some d else _) = _
        rw [tkIs_D, decide_eq_false e, if_neg (by decide)]
      rw [e1, valV_neg (p := (k', v)) e]
      exact RpT.look k r
theorem RpT.any (k : List Key) : ∀ {kvs : List (List Key × V)} {ps : List (D × D)}, RpT K F kvs ps → (ps.any fun p => tkIs p.1 (k.map keyD)) = kvs.any fun kv => decide (kv.1 = k)
  | _, _, .nil => rfl
  | _, _, .cons h r => by
    rw [List.any_cons, List.any_cons, RpT.any k r, tkIs_D]
theorem RpT.app : ∀ {kvs lvs : List (List Key × V)} {ps qs : List (D × D)}, RpT K F kvs ps → RpT K F lvs qs → RpT K F (kvs ++ lvs) (ps ++ qs)
  | _, _, _, _, .nil, r => r
  | _, _, _, _, .cons h r, q => .cons h (RpT.app r q)
theorem RpT.repl (k : List Key) {v : V} {d : D} (hv : Rp K F v d) : ∀ {kvs : List (List Key × V)} {ps : List (D × D)}, RpT K F kvs ps →
    RpT K F (kvs.map (fun kv => if kv.1 = k then (kv.1, v) else kv)) (ps.map (fun p => if tkIs p.1 (k.map keyD) = true then (p.1, d) else p))
  | _, _, .nil => .nil
  | _, _, .cons (k := k') h r => by
    have ih := RpT.repl k hv r
    rw [List.map_cons, List.map_cons]
    by_cases e : k' = k
    · subst e
      rw [if_pos rfl, tkIs_D, decide_eq_true rfl, if_pos rfl]
      exact .cons hv ih
    · rw [if_neg e, tkIs_D, decide_eq_false e, if_neg (by decide)]
      exact .cons h ih
theorem RpT.put {kvs : List (List Key × V)} {ps : List (D × D)} (r : RpT K F kvs ps) (k : List Key) {v : V} {d : D} (hv : Rp K F v d) : RpT K F (putK kvs k v) (putT ps (k.map keyD) d) := by
  unfold putK putT
  rw [r.any k]
  split
  · exact r.repl k hv
  · exact r.app (.cons hv .nil)
theorem keysL {xs : List V} {ds : List D} (h : RpL K F xs ds) (hk : ds.all isKey = true) : ∃ ks : List Key, ds = ks.map keyD ∧ xs = ks.map kV := by
  induction ds generalizing xs with
  | nil => cases h; exact ⟨[], rfl, rfl⟩
  | cons d ds ih =>
    rw [List.all_cons, Bool.and_eq_true] at hk
    cases h with
    | cons h1 h2 =>
      obtain ⟨k, rfl⟩ := key_of_isKey hk.1
      obtain ⟨ks, e1, e2⟩ := ih h2 hk.2
      have ek := rq_key (H := F) (Or.inl h1 : Rq K F F _ (keyD k))
      exact ⟨k :: ks, by rw [e1]; rfl, by rw [e2, ek]; rfl⟩
theorem intsL_keys : ∀ {k : List Key} {l : List Int}, intsL (k.map keyD) = some l → k = l.map Sum.inl
  | [], l, h => by cases h; rfl
  | .inl i :: k, l, h => by
    have h' : (intsL (k.map keyD)).map (i :: ·) = some l := h
    rw [Option.map_eq_some_iff] at h'
    obtain ⟨m, h1, h2⟩ := h'
    rw [← h2, intsL_keys h1]
    rfl
  | .inr x :: k, l, h => nomatch h
theorem hashes_ok {P : Program} {w : World} : ∀ {kvs : List (List Key × V)} {ps : List (D × D)} {hs : List Int}, RpT K F kvs ps → hashesT ps = some hs → (kvs.map fun kv => tupleKeyHash (mixKind P w) kv.1) = hs
  | _, _, hs, .nil, h => by cases h; rfl
  | _, _, hs, .cons (k := k) h r, e => by
    unfold hashesT at e
    split at e
    · rename_i l hs' e1 e2
      cases e
      have hk := intsL_keys (show intsL (k.map keyD) = some l from e1)
      rw [List.map_cons, hashes_ok r e2]
      congr 1
      show tupleKeyHash (mixKind P w) k = hashI l
      rw [hk]
      unfold tupleKeyHash hashI
      rw [List.map_map]
      rfl
    · cases e
theorem nodupI_ok : ∀ {l : List Int}, nodupI l = true → l.Nodup
  | [], _ => List.nodup_nil
  | x :: r, h => by
    unfold nodupI at h
    rw [Bool.and_eq_true] at h
    rw [List.nodup_cons]
    have hn : ¬ x ∈ r := by simpa using h.1
    exact ⟨hn, nodupI_ok h.2⟩
end
end Ev

end
section
set_option linter.all false
set_option maxHeartbeats 4000000
/-! Readings of dicts. -/
namespace Ev
open PySem PySem.Spec PyProof.Rows L2
section
variable {K : Fg} {B : Bs} {σ : L2.St} {r : Env} {F H : Hp}
theorem Rq.dit {x : V} {ps : List (D × D)} (s : Sub F H) (h : Rq K F H x (.dict ((.none, .int 0) :: ps))) : ∃ a kvs, x = .ref a ∧ H a = some (.dT kvs) ∧ RpT K F kvs ps := by
  rcases h with h | ⟨a, o, e, e1, e2⟩
  · generalize hq : (((PyData.none, PyData.int 0) :: ps) : List (D × D)) = q at h
    cases h with
    | dic h1 h2 =>
      cases h2 with
      | nil => cases hq
      | @cons k v d kvs ps' h3 h4 =>
        have h5 : PyData.none = keyD k := by
          injection hq with h6
          exact congrArg Prod.fst h6
        cases k <;> cases h5
    | dit h1 h2 =>
      injection hq with _ h6
      subst h6
      exact ⟨_, _, rfl, s _ _ h1, h2⟩
    | scr h1 h2 =>
      injection hq with h6 _
      injection h6 with _ h6
      cases h6
  · rcases e2 with ⟨kvs, e3, h2⟩ | ⟨kvs, qs, e0, e3, h2⟩
    · generalize hq : (((PyData.none, PyData.int 0) :: ps) : List (D × D)) = q at h2
      cases h2 with
      | nil => cases hq
      | @cons k v d kvs ps' h3 h4 =>
        have h5 : PyData.none = keyD k := by
          injection hq with h6
          exact congrArg Prod.fst h6
        cases k <;> cases h5
    · injection e0 with _ e0
      subst e0 e3
      exact ⟨a, kvs, e, e1, h2⟩
/-- a dict with tuple keys, not at p -/
theorem deref_dit {H0 : Hp} {t : TV} {x : V} {ps : List (D × D)} {p : Addr} (s : StR K B F H σ r) (h : TvR K H0 σ F H t x) (e : deref r t = some (.dict ((.none, .int 0) :: ps))) (h0 : H0 p ≠ none) (fp : F p = none) (no : ¬ Own σ r p) :
    ∃ a kvs, x = .ref a ∧ H a = some (.dT kvs) ∧ RpT K F kvs ps ∧ a ≠ p := by
  have rp : ∀ x, Rp K F x (.dict ((.none, .int 0) :: ps)) → ∃ a kvs, x = .ref a ∧ H a = some (.dT kvs) ∧ RpT K F kvs ps ∧ a ≠ p := fun x h => by
    obtain ⟨a, kvs, e1, e2, e3⟩ := Rq.dit (K := K) (Sub.refl F) (Or.inl h : Rq K F F x _)
    exact ⟨a, kvs, e1, s.sub _ _ e2, e3, fun z => by rw [z, fp] at e2; cases e2⟩
  have ob : ∀ o b, H b = some o → ObR K F o (.dict ((.none, .int 0) :: ps)) → ∃ kvs, o = .dT kvs ∧ RpT K F kvs ps := fun o b hb h => by
    obtain ⟨a, kvs, e1, e2, e3⟩ := Rq.dit (K := K) s.sub (Or.inr ⟨b, o, rfl, hb, h⟩ : Rq K F H (.ref b) _)
    cases e1
    rw [hb] at e2
    cases e2
    exact ⟨kvs, rfl, e3⟩
  cases t with
  | d v =>
    cases (show some v = some _ from e)
    exact rp x h
  | f v =>
    cases (show some v = some _ from e)
    obtain ⟨q, o, e0, e1, _, e3, e4⟩ := h
    obtain ⟨kvs, e5, h2⟩ := ob o q e1 e3
    subst e5
    exact ⟨q, kvs, e0, e1, h2, fun z => h0 (by rw [← z]; exact e4)⟩
  | s i =>
    have h : σ[i]? = some (some x) := h
    have oc : ∀ c, (r[i]? = some (.own c) ∨ r[i]? = some (.bor c)) → c = .dict ((.none, .int 0) :: ps) → ∃ a kvs, x = .ref a ∧ H a = some (.dT kvs) ∧ RpT K F kvs ps ∧ a ≠ p := fun c hc ec => by
      subst ec
      obtain ⟨a, o, e1, e2, _, e4⟩ := s.obj i _ hc
      rw [h] at e1
      cases e1
      obtain ⟨kvs, e5, h2⟩ := ob o a e2 e4
      subst e5
      exact ⟨a, kvs, rfl, e2, h2, fun z => no ⟨i, _, hc, by rw [← z]; exact h⟩⟩
    unfold deref at e
    simp only at e
    split at e
    · rename_i c hc
      cases e
      obtain ⟨y, e1, e2⟩ := s.val i _ hc
      rw [h] at e1
      cases e1
      exact rp _ e2
    · rename_i c hc
      exact oc c (.inl hc) (by cases e; rfl)
    · rename_i c hc
      exact oc c (.inr hc) (by cases e; rfl)
    · cases e
end
section
variable {X : Cx} {B : Bs} {o e k d ed ev : Expr} {es : List Expr} {pos tpos : Pos} {ctx : Nat} {f g h : Env → Res TV} {l : Env → Res (List D)}
theorem rd_sdt (hu : X.A.units < cLine) (hd : PE X ed (RdE X.K B f)) (hk : PA X es (RdA X.K B l)) (hv : PE X ev (RdE X.K B h)) :
    PE X (.Dict [none, some (.Tuple es ctx tpos)] [ed, ev] pos) (RdE X.K B fun r => (f r).bind fun x r1 => match deref r1 x with
      | some u => (l r1).bind fun ds r2 => (h r2).bind fun z r3 => (solidR r3 z).bind fun w r4 => .of ((mrgT u ds w).map .f) r4
      | none => .stuck) := by
  refine PE.imp (pe_starT hu hd (pe_tup hk) hv) fun σ H Q ⟨F, r, st, t, r', e, c⟩ p hp => ?_
  obtain ⟨x, r1, e1, e⟩ := bind_inv e
  split at e
  · rename_i u hu'
    obtain ⟨ds, r2, e2, e⟩ := bind_inv e
    obtain ⟨z, r3, e3, e⟩ := bind_inv e
    obtain ⟨w, r4, e4, e⟩ := bind_inv e
    obtain ⟨e5, rfl⟩ := of_inv e
    rw [Option.map_eq_some_iff] at e5
    obtain ⟨rd, e5, rfl⟩ := e5
    unfold mrgT at e5
    split at e5
    · rename_i ps ks vl
      split at e5
      · rename_i hs hh
        split at e5
        · rename_i hc
          simp only [Bool.and_eq_true, decide_eq_true_eq] at hc
          obtain ⟨⟨⟨c1, c0⟩, c2⟩, c3⟩ := hc
          cases e5
          obtain ⟨fp, no⟩ := new_away (o := .dT []) st hp
          have lp := laid (o := .dT []) st hp
          refine ⟨F, r, lp.st, x, r1, e1, fun xv F1 H1 p1 t1 => ?_⟩
          obtain ⟨hp1, fp1, no1⟩ := away p1 upd_same fp no
          obtain ⟨a, kvs, ea, ha, rk, hap⟩ := deref_dit p1.st t1 hu' (p := p) (by rw [upd_same]; simp) fp1 no1
          have hl : kvs.length < sizeLine := by rw [rk.length, ← szl]; exact c3
          have hnd : (kvs.map fun kv => tupleKeyHash (mixKind X.prog X.w) kv.1).Nodup := by
            rw [hashes_ok rk hh]
            exact nodupI_ok c2
          refine ⟨hp1, a, kvs, ea, hap, .inl ha, hl, hnd, fun q hq hqp => ?_⟩
          have P1 := post_upd (o := .dT kvs) (lp.trans p1) hp fp1 no1
          have hq' : upd H1 p (.dT kvs) q = none := by rw [upd_ne hqp]; exact hq
          obtain ⟨fq, nq⟩ := new_away (o := .dT []) P1.st hq'
          have lq := laid (o := .dT []) P1.st hq'
          refine ⟨F1, r1, lq.st, ds, r2, e2, fun xs F2 H2 p2 rl => ?_⟩
          obtain ⟨kk, e6, e7⟩ := keysL rl c1
          subst e6 e7
          refine ⟨?_, fun b hb => ?_⟩
          · rw [List.length_map] at c0 ⊢
            rw [← szl]
            exact c0
          · have lb := laid (o := .tup (kk.map kV)) p2.st hb
            obtain ⟨fb, nb⟩ := new_away (o := .tup (kk.map kV)) p2.st hb
            refine ⟨F2, r2, lb.st, z, r3, e3, fun zv F3 H3 p3 t3 => ?_⟩
            obtain ⟨F4, p4, h4, _⟩ := solid_post lb.st p3 t3 (solidR_ok e4)
            obtain ⟨hb4, _, _⟩ := away p4 upd_same fb nb
            have p24 := (p2.trans lb).trans p4
            have hpq : upd (upd H1 p (.dT kvs)) q (.dT []) p = some (.dT kvs) := by rw [upd_ne (Ne.symm hqp), upd_same]
            obtain ⟨hp4, fp4, no4⟩ := away p24 hpq fp1 no1
            obtain ⟨hq4, fq4, nq4⟩ := away p24 upd_same fq nq
            refine ⟨hp4, hq4, b, kk, rfl, hb4, ?_⟩
            have hHq : H q = none := Classical.byContradiction fun n => (lp.trans p1).dom q n hq
            have P4 := post_upd (o := .dT [(kk, zv)]) ((P1.trans lq).trans p24) hHq fq4 nq4
            have P5 := post_upd (o := .dT (putK kvs kk zv)) P4 hp fp4 no4
            exact c _ F4 _ P5 ⟨p, _, rfl, upd_same, fp4, .inr ⟨_, _, rfl, rfl, (rk.mono p24.mono).put kk h4⟩, hp⟩
        · cases e5
      · cases e5
    · cases e5
  · cases e
end
end Ev

end
section
set_option linter.all false
set_option maxHeartbeats 4000000
/-! Looking up in dicts. -/
namespace Ev
open PySem PySem.Spec PyProof.Rows L2
section
variable {K : Fg} {B : Bs} {σ : L2.St} {r : Env} {F H : Hp}
theorem dget_ref {x : V} {u v : D} {t : Option D} (s : Sub F H) (hx : Rq K F H x u) (e : getD1 u v = some t) : ∃ a, x = .ref a := by
  unfold getD1 at e
  split at e
  · split at e
    · rename_i w
      rw [Bool.and_eq_true] at w
      obtain ⟨a, kvs, e1, _⟩ := hx.dic s w.2
      exact ⟨a, e1⟩
    · cases e
  · cases e
/-- what a dict with tuple keys holds -/
theorem tget_of {x : V} {b : Addr} {u : D} {xs : List V} {ds : List D} {t : Option D} (s : Sub F H) (hx : Rq K F H x u) (hl : RpL K F xs ds) (hb : H b = some (.tup xs)) (e : getT u ds = some t) :
    ∃ a o, x = .ref a ∧ DGet H a (.ref b) o ∧ ((t = none ∧ o = none) ∨ ∃ d w, t = some d ∧ o = some w ∧ Rp K F w d) := by
  unfold getT at e
  split at e
  · rename_i ps ks
    split at e
    · rename_i w
      rw [Bool.and_eq_true] at w
      cases e
      obtain ⟨kk, e1, e2⟩ := keysL hl w.1
      subst e1 e2
      obtain ⟨a, kvs, ea, ha, rk⟩ := Rq.dit s hx
      refine ⟨a, valV kvs kk, ea, DGet.t ha hb, ?_⟩
      rcases rk.look kk with ⟨h1, h2⟩ | ⟨d, w', h1, h2, h3⟩
      · exact .inl ⟨h1, h2⟩
      · exact .inr ⟨d, w', h1, h2, h3⟩
    · cases e
  · cases e
theorem getT_len {u : D} {ds : List D} {t : Option D} (e : getT u ds = some t) : ds.length ≤ sizeLine := by
  unfold getT at e
  split at e
  · split at e
    · rename_i w
      rw [Bool.and_eq_true, decide_eq_true_eq] at w
      rw [← szl]
      exact w.2
    · cases e
  · cases e
theorem rdc_of {X : Cx} {B : Bs} {φ : Env → Res TV} (hb : ∀ r t r', φ r = .ok t r' → ∃ b, t = .d (.bool b)) {σ : L2.St} {H : Hp} {Q : Bool → Hp → Prop} (q : RdC X.K B (tst φ).2 σ H Q) : RdE X.K B φ σ H (fun x H' => ∃ d, x = .bl d ∧ Q d H') := by
  obtain ⟨F0, r, s, t, r', e, k⟩ := q
  simp only [tst] at e
  obtain ⟨x, r1, e1, e⟩ := bind_inv e
  obtain ⟨b, rfl⟩ := hb _ _ _ e1
  cases e
  refine ⟨F0, r, s, _, _, e1, fun z F' H' p tv => ?_⟩
  have tv' : Rp X.K F' z (.bool t) := tv
  cases tv'
  exact ⟨t, rfl, k F' H' p⟩
theorem bl_rp (n : Bool) (o : Option V) (t : Option D) (h : (t = none ∧ o = none) ∨ ∃ d w, t = some d ∧ o = some w ∧ Rp K F w d) : o.isSome = t.isSome ∧ (!o.isSome) = t.isNone := by
  rcases h with ⟨rfl, rfl⟩ | ⟨d, w, rfl, rfl, _⟩ <;> exact ⟨rfl, rfl⟩
end
section
variable {X : Cx} {B : Bs} {d k ed ev : Expr} {es : List Expr} {apos cpos pos tpos : Pos} {ctx : Nat} {f g h : Env → Res TV} {l : Env → Res (List D)}
theorem rd_dix (hu : X.A.units + 1 < cLine) (hs : NoSl k) (hd : PE X d (RdE X.K B f)) (hk : PE X k (RdE X.K B g)) :
    PE X (.Subscript d k pos) (RdE X.K B fun r => (f r).bind fun x r1 => (g r1).bind fun y r2 => match deref r2 x, deref r2 y with
      | some u, some v => .of ((getD1 u v).bind fun t => t.map .d) r2
      | _, _ => .stuck) := by
  refine PE.imp (pe_dget hu hd hk hs) fun σ H Q ⟨F, r, s, t, r', e, c⟩ => ?_
  obtain ⟨x, r1, e1, e⟩ := bind_inv e
  obtain ⟨y, r2, e2, e⟩ := bind_inv e
  refine ⟨F, r, s, x, r1, e1, fun xv F1 H1 p1 t1 => ⟨F1, r1, p1.st, y, r2, e2, fun yv F2 H2 p2 t2 => ?_⟩⟩
  have t1' := t1.keep p2 (p1.ne s)
  split at e
  · rename_i u v z1 z2
    obtain ⟨e3, rfl⟩ := of_inv e
    rw [Option.bind_eq_some_iff] at e3
    obtain ⟨tt, e3, e4⟩ := e3
    rw [Option.map_eq_some_iff] at e4
    obtain ⟨dd, e4, rfl⟩ := e4
    have hx := deref_rq p2.st t1' z1
    obtain ⟨a, ea⟩ := dget_ref p2.st.sub hx e3
    obtain ⟨ov, g1, g2⟩ := dget_of p2.st.sub hx ea (deref_rq p2.st t2 z2) e3
    rcases g2 with ⟨q1, _⟩ | ⟨d2, w, q1, q2, hw⟩
    · rw [q1] at e4
      cases e4
    · rw [q1] at e4
      cases e4
      subst q2
      exact ⟨a, w, ea, g1, c _ F2 H2 (p1.trans p2) hw⟩
  · cases e
theorem rd_din_imp : ∀ σ H Q, RdE X.K B (fun r => (g r).bind fun y r1 => (f r1).bind fun x r2 => match deref r2 x, deref r2 y with
      | some u, some v => .of ((getD1 u v).map fun t => .d (.bool (if false = true then t.isNone else t.isSome))) r2
      | _, _ => .stuck) σ H Q → tDIn (RdE X.K B g) (RdE X.K B f) σ H Q := by
  intro σ H Q ⟨F, r, s, t, r', e, c⟩
  obtain ⟨y, r1, e1, e⟩ := bind_inv e
  obtain ⟨x, r2, e2, e⟩ := bind_inv e
  refine ⟨F, r, s, y, r1, e1, fun yv F1 H1 p1 t1 => ⟨F1, r1, p1.st, x, r2, e2, fun xv F2 H2 p2 t2 => ?_⟩⟩
  have t1' := t1.keep p2 (p1.ne s)
  split at e
  · rename_i u v z1 z2
    obtain ⟨e3, rfl⟩ := of_inv e
    rw [Option.map_eq_some_iff] at e3
    obtain ⟨tt, e3, rfl⟩ := e3
    have hx := deref_rq p2.st t2 z1
    obtain ⟨a, ea⟩ := dget_ref p2.st.sub hx e3
    obtain ⟨ov, g1, g2⟩ := dget_of p2.st.sub hx ea (deref_rq p2.st t1' z2) e3
    have hb := bl_rp (K := X.K) false ov tt g2
    refine ⟨a, ov, ea, g1, c _ F2 H2 (p1.trans p2) ?_⟩
    rw [hb.1]
    exact .bl _
  · cases e
theorem rd_din_b : ∀ (r : Ev.Env) (t : TV) (r' : Ev.Env), ((fun r => (g r).bind fun y r1 => (f r1).bind fun x r2 => match deref r2 x, deref r2 y with
      | some u, some v => .of ((getD1 u v).map fun t => .d (.bool (if false = true then t.isNone else t.isSome))) r2
      | _, _ => .stuck) : Ev.Env → Res TV) r = .ok t r' → ∃ b, t = .d (.bool b) := by
  intro r t r' e
  dsimp only at e
  obtain ⟨y, r1, _, e⟩ := bind_inv e
  obtain ⟨x, r2, _, e⟩ := bind_inv e
  split at e
  · obtain ⟨e3, _⟩ := of_inv e
    rw [Option.map_eq_some_iff] at e3
    obtain ⟨tt, _, rfl⟩ := e3
    exact ⟨_, rfl⟩
  · cases e
theorem rd_din (hu : X.A.units + 1 < cLine) (hm : behindInMarks .In d = false) (hk : PE X k (RdE X.K B g)) (hd : PE X d (RdE X.K B f)) :
    PE X (.Compare k [.In] [d] pos) (RdE X.K B (fun r => (g r).bind fun y r1 => (f r1).bind fun x r2 => match deref r2 x, deref r2 y with
      | some u, some v => .of ((getD1 u v).map fun t => .d (.bool (if false = true then t.isNone else t.isSome))) r2
      | _, _ => .stuck)) ∧ PT X (.Compare k [.In] [d] pos) (RdC X.K B (tst (fun r => (g r).bind fun y r1 => (f r1).bind fun x r2 => match deref r2 x, deref r2 y with
      | some u, some v => .of ((getD1 u v).map fun t => .d (.bool (if false = true then t.isNone else t.isSome))) r2
      | _, _ => .stuck)).2) :=
  ⟨PE.imp (pe_cmp (pc_din hu hk hd) hm) rd_din_imp, PT.imp (pt_cmp (pc_din hu hk hd) hm) fun σ H Q q => rd_din_imp σ H _ (rdc_of rd_din_b q)⟩
theorem rd_dnin_imp : ∀ σ H Q, RdE X.K B (fun r => (g r).bind fun y r1 => (f r1).bind fun x r2 => match deref r2 x, deref r2 y with
      | some u, some v => .of ((getD1 u v).map fun t => .d (.bool (if true = true then t.isNone else t.isSome))) r2
      | _, _ => .stuck) σ H Q → tDNotIn (RdE X.K B g) (RdE X.K B f) σ H Q := by
  intro σ H Q ⟨F, r, s, t, r', e, c⟩
  obtain ⟨y, r1, e1, e⟩ := bind_inv e
  obtain ⟨x, r2, e2, e⟩ := bind_inv e
  refine ⟨F, r, s, y, r1, e1, fun yv F1 H1 p1 t1 => ⟨F1, r1, p1.st, x, r2, e2, fun xv F2 H2 p2 t2 => ?_⟩⟩
  have t1' := t1.keep p2 (p1.ne s)
  split at e
  · rename_i u v z1 z2
    obtain ⟨e3, rfl⟩ := of_inv e
    rw [Option.map_eq_some_iff] at e3
    obtain ⟨tt, e3, rfl⟩ := e3
    have hx := deref_rq p2.st t2 z1
    obtain ⟨a, ea⟩ := dget_ref p2.st.sub hx e3
    obtain ⟨ov, g1, g2⟩ := dget_of p2.st.sub hx ea (deref_rq p2.st t1' z2) e3
    have hb := bl_rp (K := X.K) true ov tt g2
    refine ⟨a, ov, ea, g1, c _ F2 H2 (p1.trans p2) ?_⟩
    rw [hb.2]
    exact .bl _
  · cases e
theorem rd_dnin_b : ∀ (r : Ev.Env) (t : TV) (r' : Ev.Env), ((fun r => (g r).bind fun y r1 => (f r1).bind fun x r2 => match deref r2 x, deref r2 y with
      | some u, some v => .of ((getD1 u v).map fun t => .d (.bool (if true = true then t.isNone else t.isSome))) r2
      | _, _ => .stuck) : Ev.Env → Res TV) r = .ok t r' → ∃ b, t = .d (.bool b) := by
  intro r t r' e
  dsimp only at e
  obtain ⟨y, r1, _, e⟩ := bind_inv e
  obtain ⟨x, r2, _, e⟩ := bind_inv e
  split at e
  · obtain ⟨e3, _⟩ := of_inv e
    rw [Option.map_eq_some_iff] at e3
    obtain ⟨tt, _, rfl⟩ := e3
    exact ⟨_, rfl⟩
  · cases e
theorem rd_dnin (hu : X.A.units + 1 < cLine) (hm : behindInMarks .NotIn d = false) (hk : PE X k (RdE X.K B g)) (hd : PE X d (RdE X.K B f)) :
    PE X (.Compare k [.NotIn] [d] pos) (RdE X.K B (fun r => (g r).bind fun y r1 => (f r1).bind fun x r2 => match deref r2 x, deref r2 y with
      | some u, some v => .of ((getD1 u v).map fun t => .d (.bool (if true = true then t.isNone else t.isSome))) r2
      | _, _ => .stuck)) ∧ PT X (.Compare k [.NotIn] [d] pos) (RdC X.K B (tst (fun r => (g r).bind fun y r1 => (f r1).bind fun x r2 => match deref r2 x, deref r2 y with
      | some u, some v => .of ((getD1 u v).map fun t => .d (.bool (if true = true then t.isNone else t.isSome))) r2
      | _, _ => .stuck)).2) :=
  ⟨PE.imp (pe_cmp (pc_dnotin hu hk hd) hm) rd_dnin_imp, PT.imp (pt_cmp (pc_dnotin hu hk hd) hm) fun σ H Q q => rd_dnin_imp σ H _ (rdc_of rd_dnin_b q)⟩
theorem rd_tin_imp : ∀ σ H Q, RdE X.K B (fun r => (l r).bind fun ds r1 => (f r1).bind fun x r2 => match deref r2 x with
      | some u => .of ((getT u ds).map fun t => .d (.bool (if false = true then t.isNone else t.isSome))) r2
      | none => .stuck) σ H Q → tDIn (tTup (RdA X.K B l)) (RdE X.K B f) σ H Q := by
  intro σ H Q ⟨F, r, s, t, r', e, c⟩
  obtain ⟨ds, r1, e1, e⟩ := bind_inv e
  obtain ⟨x, r2, e2, e⟩ := bind_inv e
  split at e
  · rename_i u z1
    obtain ⟨e3, rfl⟩ := of_inv e
    rw [Option.map_eq_some_iff] at e3
    obtain ⟨tt, e3, rfl⟩ := e3
    refine ⟨F, r, s, ds, r1, e1, fun xs F1 H1 p1 rl => ⟨by rw [rl.length]; exact getT_len e3, fun b hb => ?_⟩⟩
    have lb := laid (o := .tup xs) p1.st hb
    obtain ⟨fb, nb⟩ := new_away (o := .tup xs) p1.st hb
    refine ⟨F1, r1, lb.st, x, r2, e2, fun xv F2 H2 p2 t2 => ?_⟩
    obtain ⟨hb2, _, _⟩ := away p2 upd_same fb nb
    obtain ⟨a, ov, ea, g1, g2⟩ := tget_of p2.st.sub (deref_rq p2.st t2 z1) (rl.mono p2.mono) hb2 e3
    have hbl := bl_rp (K := X.K) false ov tt g2
    refine ⟨a, ov, ea, g1, c _ F2 H2 ((p1.trans lb).trans p2) ?_⟩
    rw [hbl.1]
    exact .bl _
  · cases e
theorem rd_tin_b : ∀ (r : Ev.Env) (t : TV) (r' : Ev.Env), ((fun r => (l r).bind fun ds r1 => (f r1).bind fun x r2 => match deref r2 x with
      | some u => .of ((getT u ds).map fun t => .d (.bool (if false = true then t.isNone else t.isSome))) r2
      | none => .stuck) : Ev.Env → Res TV) r = .ok t r' → ∃ b, t = .d (.bool b) := by
  intro r t r' e
  dsimp only at e
  obtain ⟨y, r1, _, e⟩ := bind_inv e
  obtain ⟨x, r2, _, e⟩ := bind_inv e
  split at e
  · obtain ⟨e3, _⟩ := of_inv e
    rw [Option.map_eq_some_iff] at e3
    obtain ⟨tt, _, rfl⟩ := e3
    exact ⟨_, rfl⟩
  · cases e
theorem rd_tin (hu : X.A.units + 1 < cLine) (hm : behindInMarks .In d = false) (hk : PA X es (RdA X.K B l)) (hd : PE X d (RdE X.K B f)) :
    PE X (.Compare (.Tuple es ctx tpos) [.In] [d] pos) (RdE X.K B (fun r => (l r).bind fun ds r1 => (f r1).bind fun x r2 => match deref r2 x with
      | some u => .of ((getT u ds).map fun t => .d (.bool (if false = true then t.isNone else t.isSome))) r2
      | none => .stuck)) ∧ PT X (.Compare (.Tuple es ctx tpos) [.In] [d] pos) (RdC X.K B (tst (fun r => (l r).bind fun ds r1 => (f r1).bind fun x r2 => match deref r2 x with
      | some u => .of ((getT u ds).map fun t => .d (.bool (if false = true then t.isNone else t.isSome))) r2
      | none => .stuck)).2) :=
  ⟨PE.imp (pe_cmp (pc_din hu (pe_tup hk) hd) hm) rd_tin_imp, PT.imp (pt_cmp (pc_din hu (pe_tup hk) hd) hm) fun σ H Q q => rd_tin_imp σ H _ (rdc_of rd_tin_b q)⟩
theorem rd_tix (hu : X.A.units + 1 < cLine) (hs : NoSl (.Tuple es ctx tpos)) (hd : PE X d (RdE X.K B f)) (hk : PA X es (RdA X.K B l)) :
    PE X (.Subscript d (.Tuple es ctx tpos) pos) (RdE X.K B fun r => (f r).bind fun x r1 => (l r1).bind fun ds r2 => match deref r2 x with
      | some u => .of ((getT u ds).bind fun t => t.map .d) r2
      | none => .stuck) := by
  refine PE.imp (pe_dget hu hd (pe_tup hk) hs) fun σ H Q ⟨F, r, s, t, r', e, c⟩ => ?_
  obtain ⟨x, r1, e1, e⟩ := bind_inv e
  obtain ⟨ds, r2, e2, e⟩ := bind_inv e
  split at e
  · rename_i u z1
    obtain ⟨e3, rfl⟩ := of_inv e
    rw [Option.bind_eq_some_iff] at e3
    obtain ⟨tt, e3, e4⟩ := e3
    rw [Option.map_eq_some_iff] at e4
    obtain ⟨dd, e4, rfl⟩ := e4
    refine ⟨F, r, s, x, r1, e1, fun xv F1 H1 p1 t1 => ⟨F1, r1, p1.st, ds, r2, e2, fun xs F2 H2 p2 rl => ⟨by rw [rl.length]; exact getT_len e3, fun b hb => ?_⟩⟩⟩
    have t1' := t1.keep p2 (p1.ne s)
    have lb := laid (o := .tup xs) p2.st hb
    have t1'' := t1'.keep lb fun a q => p1.ne s a (p2.own a q)
    obtain ⟨a, ov, ea, g1, g2⟩ := tget_of lb.st.sub (deref_rq lb.st t1'' z1) (rl.mono lb.mono) upd_same e3
    rcases g2 with ⟨q1, _⟩ | ⟨d2, w, q1, q2, hw⟩
    · rw [q1] at e4
      cases e4
    · rw [q1] at e4
      cases e4
      subst q2
      exact ⟨a, w, ea, g1, c _ F2 _ ((p1.trans p2).trans lb) hw⟩
  · cases e
theorem rd_tg2 (hu : X.A.units + 1 < cLine) (hb : baseB d = true) (hp2 : plainE ed = true) (hl : (apos.endLine == cpos.line) = true) (ho : PE X d (RdE X.K B f)) (hk : PA X es (RdA X.K B l)) (hd : PE X ed (RdE X.K B h)) :
    PE X (.Call (.Attribute d "get" apos) [.Tuple es ctx tpos, ed] [] cpos) (RdE X.K B fun r => (f r).bind fun x r1 => (dictR r1 x).bind fun _ r1 => (l r1).bind fun ds r2 => (h r2).bind fun z r3 => (solidR r3 z).bind fun w r4 => match deref r4 x with
      | some u => .of ((getT u ds).map fun t => .d (t.getD w)) r4
      | none => .stuck) := by
  refine PE.imp (pe_dget2 hu ho (pe_tup hk) hd (m2_ok hb rfl hp2 hl)) fun σ H Q ⟨F, r, s, t, r', e, c⟩ => ?_
  obtain ⟨x, r1, e1, ea⟩ := bind_inv e
  obtain ⟨_, r1', e0, eb⟩ := bind_inv ea
  obtain ⟨u0, z0, w0, rfl⟩ := dictR_inv e0
  clear e ea
  obtain ⟨ds, r2, e2, ec⟩ := bind_inv eb
  obtain ⟨z, r3, e3, ed'⟩ := bind_inv ec
  obtain ⟨w, r4, e4, e⟩ := bind_inv ed'
  split at e
  · rename_i u z1
    obtain ⟨e5, rfl⟩ := of_inv e
    rw [Option.map_eq_some_iff] at e5
    obtain ⟨tt, e5, rfl⟩ := e5
    refine ⟨F, r, s, x, r1, e1, fun xv F1 H1 p1 t1 => ?_⟩
    obtain ⟨a, ea, da⟩ := isD_of p1.st.sub (deref_rq p1.st t1 z0) w0
    refine ⟨a, ea, da, F1, r1, p1.st, ds, r2, e2, fun xs F2 H2 p2 rl => ⟨by rw [rl.length]; exact getT_len e5, fun b hb' => ?_⟩⟩
    have lb := laid (o := .tup xs) p2.st hb'
    obtain ⟨fb, nb⟩ := new_away (o := .tup xs) p2.st hb'
    refine ⟨F2, r2, lb.st, z, r3, e3, fun zv F3 H3 p3 t3 => ?_⟩
    obtain ⟨F4, p4, h4, _⟩ := solid_post lb.st p3 t3 (solidR_ok e4)
    obtain ⟨hb4, _, _⟩ := away p4 upd_same fb nb
    have t1' := t1.keep p2 (p1.ne s)
    have t1'' := (t1'.keep lb fun a q => p1.ne s a (p2.own a q)).keep p4 fun a q => p1.ne s a (p2.own a (lb.own a q))
    obtain ⟨a', ov, ea', g1, g2⟩ := tget_of p4.st.sub (deref_rq p4.st t1'' z1) ((rl.mono lb.mono).mono p4.mono) hb4 e5
    rw [ea] at ea'
    cases ea'
    refine ⟨ov, g1, c _ F4 H3 (((p1.trans p2).trans lb).trans p4) ?_⟩
    rcases g2 with ⟨rfl, rfl⟩ | ⟨dd, w', rfl, rfl, hw⟩
    · exact h4
    · exact hw
  · cases e
theorem rd_tg1 (hu : X.A.units + 1 < cLine) (hb : baseB d = true) (hl : (apos.endLine == cpos.line) = true) (ho : PE X d (RdE X.K B f)) (hk : PA X es (RdA X.K B l)) :
    PE X (.Call (.Attribute d "get" apos) [.Tuple es ctx tpos] [] cpos) (RdE X.K B fun r => (f r).bind fun x r1 => (dictR r1 x).bind fun _ r1 => (l r1).bind fun ds r2 => match deref r2 x with
      | some u => .of ((getT u ds).map fun t => .d (t.getD .none)) r2
      | none => .stuck) := by
  refine PE.imp (pe_dget1 hu ho (pe_tup hk) (m1_ok hb rfl hl)) fun σ H Q ⟨F, r, s, t, r', e, c⟩ => ?_
  obtain ⟨x, r1, e1, ea⟩ := bind_inv e
  obtain ⟨_, r1', e0, eb⟩ := bind_inv ea
  obtain ⟨u0, z0, w0, rfl⟩ := dictR_inv e0
  clear e ea
  obtain ⟨ds, r2, e2, e⟩ := bind_inv eb
  split at e
  · rename_i u z1
    obtain ⟨e5, rfl⟩ := of_inv e
    rw [Option.map_eq_some_iff] at e5
    obtain ⟨tt, e5, rfl⟩ := e5
    refine ⟨F, r, s, x, r1, e1, fun xv F1 H1 p1 t1 => ?_⟩
    obtain ⟨a, ea, da⟩ := isD_of p1.st.sub (deref_rq p1.st t1 z0) w0
    refine ⟨a, ea, da, F1, r1, p1.st, ds, r2, e2, fun xs F2 H2 p2 rl => ⟨by rw [rl.length]; exact getT_len e5, fun b hb' => ?_⟩⟩
    have lb := laid (o := .tup xs) p2.st hb'
    have t1' := t1.keep p2 (p1.ne s)
    have t1'' := t1'.keep lb fun a q => p1.ne s a (p2.own a q)
    obtain ⟨a', ov, ea', g1, g2⟩ := tget_of lb.st.sub (deref_rq lb.st t1'' z1) (rl.mono lb.mono) upd_same e5
    rw [ea] at ea'
    cases ea'
    refine ⟨ov, g1, c _ F2 _ ((p1.trans p2).trans lb) ?_⟩
    rcases g2 with ⟨rfl, rfl⟩ | ⟨dd, w', rfl, rfl, hw⟩
    · exact .non
    · exact hw
  · cases e
end
end Ev

end
section
set_option linter.all false
set_option maxRecDepth 100000
set_option maxHeartbeats 4000000
/-! set(xs) of a list of ints, then sorted of that set. -/
namespace Ev
open PySem PySem.Spec PyProof.Rows L2
abbrev nset (w : World) : Obj := { cls := Value.type "set", dict := none, data := .set #[] 0 (.fresh 0 0 (!(w.params).followText "set-order")) }
/-- behind i items the set at a holds just these -/
def Held (w : World) (a : Addr) (ns : List Int) (i : Nat) (h : Heap) : Prop :=
  ∃ (S : Int → Bool) (c : Nat), SetR w h a S c ∧ (∀ k, S k = true ↔ k ∈ ns.take i) ∧ c ≤ i
theorem Held.at {w : World} {a : Addr} {ns : List Int} {i : Nat} {h h' : Heap} (x : Held w a ns i h) (k : ∀ o, h.get? a = some o → h'.get? a = some o) : Held w a ns i h' := by
  obtain ⟨S, c, r, m, z⟩ := x
  exact ⟨S, c, r.at k, m, z⟩
theorem Held.more {w : World} {a : Addr} {ns : List Int} {i : Nat} {h' : Heap} {S : Int → Bool} {c : Nat} (hi : i < ns.length) (m : ∀ k, S k = true ↔ k ∈ ns.take i) (z : c ≤ i)
    (r : SetR w h' a (fun j => S j || decide (j = ns.getD i 0)) (if S (ns.getD i 0) = true then c else c + 1)) : Held w a ns (i + 1) h' := by
  have e : ns.getD i 0 = ns[i] := by rw [List.getD_eq_getElem?_getD, List.getElem?_eq_getElem hi]; rfl
  refine ⟨_, _, r, fun k => ?_, by split <;> omega⟩
  rw [List.take_succ, List.getElem?_eq_getElem hi, List.mem_append, Bool.or_eq_true, m k, decide_eq_true_eq, e]
  simp
section
variable {P : Program} {w : World} {A : Around} {E : Value → Shared → Prop} {s : Shared}
theorem upd_ints {I : Addr} {fp wr : List Addr} {G : Array GenState → Array GenState → Prop} {n : Nat} {Pv : Nat → Value → Prop} {St : Nat → Shared → Prop} {R : Result → Shared → Prop}
    (W : WalksS P w A.in1 I fp wr G n Pv St) (a : Addr) (na : a ∉ fp) (ns : List Int) (hn : ns.length = n) (pv : ∀ i v, Pv i v → ∃ t, v = .int (ns.getD i 0) t) (lim : n + 1 < scanBound) :
    ∀ (m i : Nat) (s : Shared), i + m = n → St i s → Held w a ns i s.heap → (∀ s', Moved (a :: wr) G s s' → Held w a ns n s'.heap → R (.ok (.ret .none)) s') →
      codeAny (model P w) A (.builtin "set.update.loop" ⟨[.ref a, .ref I], []⟩) R s := by
  have nw : a ∉ wr := fun z => na (W.sub _ z)
  have wider : ∀ b ∈ wr, b ∈ a :: wr := fun _ z => List.mem_cons_of_mem _ z
  intro m
  induction m with
  | zero =>
    intro i s e st hd fin
    obtain rfl : i = n := e
    refine (codeAny_builtin F.entry_set_update_loop ?_)
    rw [(Around.under_plainId F.plain_set_update_loop _)]
    refine wpAny_bind (W.done s _ _ st fun s1 mv => ?_)
    exact wpAny_pure (fin s1 (mv.mono wider) (hd.at fun o q => mv.heap a o nw q))
  | succ m ih =>
    intro i s e st hd fin
    have lt : i < n := by omega
    refine (codeAny_builtin F.entry_set_update_loop ?_)
    rw [(Around.under_plainId F.plain_set_update_loop _)]
    refine wpAny_bind (W.item i s _ _ lt st fun v s1 pi st1 mv => ?_)
    obtain ⟨t, rfl⟩ := pv i v pi
    obtain ⟨S, c, r, mem, z⟩ := hd.at (h' := s1.heap) fun o q => mv.heap a o nw q
    refine wpAny_bind (wpAny_holding ?_)
    unfold setAdd
    refine wpAny_holding (wpAny_bind ((intKind P w).pyHash (intKind_is P w _ t) ?_))
    refine setR_add_hashed (s := { s1 with toks := s1.toks + 1 }) r (by omega) fun h2 sb r2 => ?_
    have off : ∀ b, b ≠ a → h2.get? b = s1.heap.get? b := fun b q => sb.2 b q
    refine wpAny_pure ⟨plainId_quiet F.plain_set_update_loop _, ih (i + 1) _ (by omega) (W.frame _ s1 _ _ st1 (Nat.le_succ _) fun b hb o q => ?_) (Held.more (by omega) mem z r2) fun s3 mv3 hd3 => ?_⟩
    · exact (off b (fun y => na (by rw [← y]; exact hb))).trans q
    · refine fin s3 (Moved.trans W.gtrans ((mv.mono wider).then_heap (Nat.le_succ _) fun b o hb q => ?_) mv3) hd3
      exact (off b (fun y => hb (by rw [y]; exact List.mem_cons_self))).trans q
theorem mkset_ints {l : Addr} {items : Array Value} {ns : List Int} {Q : Value → Shared → Prop} (hh : A.handled = none) (hl : s.heap.IsList l items) (hi : IntsAre items.toList ns) (hb : items.size + 1 < scanBound)
    (h : ∀ (h' : Heap) (tk : Nat), Held w s.heap.objs.size ns ns.length h' → (∀ b o, s.heap.get? b = some o → h'.get? b = some o) → Q (.ref s.heap.objs.size) { s with heap := h', toks := tk }) :
    wpAny (model P w) A (call (.type "set") [.ref l]) Q E s := by
  have len : ns.length = items.size := by
    have := hi.length
    rw [Array.length_toList] at this
    exact this.symm
  have ⟨c, tl, hmro⟩ := F.called_set.mro
  have hmade := F.called_set.made
  have hsub := F.called_set.sub
  refine wpAny_call (codeAny_of_tree (show wpAny _ _ (callAny (.type "set") _) _ _ _ from ?_))
  refine wpAny_pure ⟨Code.quiet_builtin _ (by decide +kernel), (codeAny_builtin F.entry_type_call ?_)⟩
  rw [(Around.under_plain (weight_type_call_type "set" [.ref l] []) rfl)]
  have h1 := F.called_set.notType
  have h2 := F.called_set.canCreate
  have hct := F.typeCall_set_1 (.ref l)
  repeat (any_goals (first | assumption | wp_step))
  refine codeAny_mono (code_set_led1 (.ref l) (E := E) (Q₁ := fun o s1 => o = .ref s.heap.objs.size ∧ s1 = { s with heap := s.heap.push (nset w) }) ⟨rfl, rfl⟩) fun res s1 g1 => ?_
  cases res with
  | error e => exact g1
  | ok fl =>
    cases fl with
    | ret obj =>
      obtain ⟨rfl, rfl⟩ := g1
      have atS : (s.heap.push (nset w)).get? s.heap.objs.size = some (nset w) := Heap.get?_push_size _ rfl
      have hT : Shared.TypeIs { s with heap := s.heap.push (nset w) } (.ref s.heap.objs.size) "set" := ⟨_, atS, rfl⟩
      have hli := F.called_set.init.lookup
      have hbi := F.called_set.init.bind (.ref s.heap.objs.size)
      repeat (any_goals (first | assumption | wp_step))
      refine codeAny_mono (codeAny_call_builtin (R := wants (fun x s2 => x = .none ∧ ∃ h' tk, s2 = { s with heap := h', toks := tk } ∧ Held w s.heap.objs.size ns ns.length h' ∧ ∀ b o, s.heap.get? b = some o → h'.get? b = some o) E)
        F.called_set.init.plain F.entry_set_init (check_set_init_1 hT ?_)) fun r2 s2 g2 => ?_
      · obtain ⟨⟨ocls, odict, odata, oslots⟩, hol, hcl, nl, hdl⟩ := hl
        simp only at hcl hdl
        subst hcl hdl
        have hol' : (s.heap.push (nset w)).get? l = some { cls := .type "list", dict := odict, data := .seq items nl, slots := oslots } := Heap.get?_push_of_some _ hol
        have hsls := F.sub_list_set
        have hslf := F.sub_list_frozenset
        have hne : (Value.type "list" == Value.type "dict") = false := by decide
        have hl1 : (s.heap.push (nset w)).IsList l items := ⟨_, hol', rfl, nl, rfl⟩
        unfold Builtin.«set.__init__» noKeywords Builtin.Frozenset.updateFrom
        generalize hPI : pyIter = PI
        wp_walk
        subst hPI
        refine wpAny_pyIter_list hl1 (wpAny_bind (wpAny_runValue ?_))
        have lt : l < s.heap.objs.size := Heap.lt_size hol
        have hh3 : A.in1.in1.in1.handled = none := by simp [hh]
        have sz : (s.heap.push (nset w)).objs.size = s.heap.objs.size + 1 := Heap.size_push ..
        have nI : l ≠ (s.heap.push (nset w)).objs.size := by
          rw [sz]
          exact Nat.ne_of_lt (Nat.lt_succ_of_lt lt)
        have nf : s.heap.objs.size ∉ [(s.heap.push (nset w)).objs.size, l] := by
          rw [sz]
          simp only [List.mem_cons, List.not_mem_nil, or_false, not_or]
          exact ⟨Nat.ne_of_lt (Nat.lt_succ_self _), Nat.ne_of_gt lt⟩
        have pv : ∀ (i : Nat) (v : Value), items[i]? = some v → ∃ t, v = .int (ns.getD i 0) t := fun i v q => IntsAre.int_at hi i v (by rw [Array.getElem?_toList]; exact q)
        have up : ∀ b o, s.heap.get? b = some o → ((s.heap.push (nset w)).push { cls := .type "list_iterator", data := .fields #[.ref l, .int 0 0] }).get? b = some o := fun b o q => Heap.get?_push_of_some _ (Heap.get?_push_of_some _ q)
        have below : ∀ b, (s.heap.push (nset w)).objs.size = b → s.heap.get? b = none := fun b q => by
          cases y : s.heap.get? b with
          | none => rfl
          | some o =>
            have z := Heap.lt_size y
            rw [← q, sz] at z
            exact absurd z (Nat.not_lt.mpr (Nat.le_succ _))
        refine upd_ints ((Walks.list hh3 _ l nI items).toS) s.heap.objs.size nf ns len pv hb items.size 0 _ (by omega) ⟨⟨_, Heap.get?_push_size _ rfl, rfl, rfl⟩, (hl1.push _)⟩ ?h0 ?hR
        case h0 => exact ⟨_, 0, (setR_fresh w).at fun o q => Heap.get?_push_of_some _ q, by simp, Nat.le_refl _⟩
        case hR =>
          intro s3 mv hd
          obtain ⟨h3, g3, d3, tk3, os3⟩ := s3
          have eg : g3 = s.gens := mv.gens
          have ed : d3 = s.drawn := mv.drawn
          have eo : os3 = s.os := mv.os
          subst eg ed eo
          refine wpAny_pure (show wpAny _ _ (ret Value.none) _ _ _ from wpAny_pure ⟨rfl, h3, tk3, rfl, len ▸ hd, fun b o q => ?_⟩)
          refine mv.heap b o (fun z => ?_) (up b o q)
          rcases List.mem_cons.mp z with z | z
          · rw [z] at q
            exact absurd (Heap.lt_size q) (Nat.lt_irrefl _)
          · rw [below b (List.mem_singleton.mp z).symm] at q
            cases q
      · cases r2 with
        | error e => exact g2
        | ok fl2 =>
          cases fl2 with
          | ret x =>
            obtain ⟨rfl, h', tk, rfl, hd, kp⟩ := g2
            repeat (any_goals (first | assumption | wp_step))
            exact h h' tk hd kp
          | _ => exact g2.elim
    | _ => exact g1.elim
end
theorem mem_insU (x k : Int) : ∀ l : List Int, k ∈ insU x l ↔ k = x ∨ k ∈ l
  | [] => by simp [insU]
  | y :: r => by
    unfold insU
    split
    · simp
    · split
      · rename_i e
        subst e
        simp
      · simp only [List.mem_cons, mem_insU x k r]
        constructor
        · rintro (h | h | h)
          · exact .inr (.inl h)
          · exact .inl h
          · exact .inr (.inr h)
        · rintro (h | h | h)
          · exact .inr (.inl h)
          · exact .inl h
          · exact .inr (.inr h)
theorem insU_up (x : Int) : ∀ l : List Int, l.Pairwise (· < ·) → (insU x l).Pairwise (· < ·)
  | [], _ => by simp [insU]
  | y :: r, h => by
    obtain ⟨h1, h2⟩ := List.pairwise_cons.mp h
    unfold insU
    split
    · rename_i q
      refine List.pairwise_cons.mpr ⟨fun z hz => ?_, h⟩
      rcases List.mem_cons.mp hz with e | hz
      · omega
      · have := h1 z hz
        omega
    · split
      · exact h
      · refine List.pairwise_cons.mpr ⟨fun z hz => ?_, insU_up x r h2⟩
        rcases (mem_insU x z r).mp hz with e | hz
        · omega
        · exact h1 z hz
theorem mem_sortU (k : Int) : ∀ l : List Int, k ∈ sortU l ↔ k ∈ l
  | [] => by simp [sortU]
  | x :: r => by
    unfold sortU
    rw [mem_insU, mem_sortU k r, List.mem_cons]
theorem sortU_up : ∀ l : List Int, (sortU l).Pairwise (· < ·)
  | [] => by simp [sortU]
  | x :: r => insU_up x _ (sortU_up r)
theorem up_same : ∀ {l m : List Int}, l.Pairwise (· < ·) → m.Pairwise (· < ·) → (∀ k, k ∈ l ↔ k ∈ m) → l = m
  | [], [], _, _, _ => rfl
  | [], y :: m, _, _, h => absurd ((h y).mpr List.mem_cons_self) (by simp)
  | x :: l, [], _, _, h => absurd ((h x).mp List.mem_cons_self) (by simp)
  | x :: l, y :: m, hl, hm, h => by
    obtain ⟨l1, l2⟩ := List.pairwise_cons.mp hl
    obtain ⟨m1, m2⟩ := List.pairwise_cons.mp hm
    have e : x = y := by
      rcases List.mem_cons.mp ((h x).mp List.mem_cons_self) with q | q
      · exact q
      · rcases List.mem_cons.mp ((h y).mpr List.mem_cons_self) with p | p
        · exact p.symm
        · have := m1 x q
          have := l1 y p
          omega
    subst e
    have t : l = m := up_same l2 m2 fun k => by
      constructor
      · intro q
        rcases List.mem_cons.mp ((h k).mp (List.mem_cons_of_mem _ q)) with p | p
        · have := l1 k q
          omega
        · exact p
      · intro q
        rcases List.mem_cons.mp ((h k).mpr (List.mem_cons_of_mem _ q)) with p | p
        · have := m1 k q
          omega
        · exact p
    rw [t]
theorem sortU_of_up {l : List Int} (h : l.Pairwise (· < ·)) : sortU l = l := up_same (sortU_up l) h fun k => mem_sortU k l
section
variable {X : Cx}
theorem intsAre_of : ∀ {ns : List Int} {us : List Value}, Vals (ns.map V.int) us → IntsAre us ns
  | [], _, .nil => .nil
  | n :: ns, _, .cons r t => by
    obtain ⟨k, rfl⟩ := r
    exact .cons n k (intsAre_of t)
/-- set(xs) -/
def rSetI (K : Fg) (w : World) : List V → Hp → VK → Prop := fun xs H Q => ∃ (l : Addr) (ns : List Int), xs = [V.ref l] ∧ SqL K H l (ns.map V.int) ∧ ns.length < 64 ∧
  ∀ (S : Int → Bool) (c : Nat) (p : Addr), (∀ k, S k = true ↔ k ∈ ns) → c < 64 → H p = none → Q (.ref p) (upd H p (SetO w p S c))
theorem cr_setI (hc : X.calm = true) : CallR X (.type "set") (rSetI X.K X.w) := by
  intro pins s σ H xs us Q I r h
  obtain ⟨l, ns, rfl, hq, h64, q⟩ := h
  rw [Vals.ref1 r]
  obtain ⟨its, rv, pl, hz⟩ := I.list hq
  have len : its.length = ns.length := by rw [← rv.length, List.length_map]
  refine mkset_ints (I.ok.hd hc) pl.isList (ns := ns) (by simpa using intsAre_of rv) (by rw [List.size_toArray, len]; unfold scanBound; omega) fun h' tk ⟨S, c, R, m, z⟩ kp => ?_
  rw [List.take_length] at m
  exact ⟨.ref _, upd H s.heap.objs.size (SetO X.w s.heap.objs.size S c), I.laid (t' := tk) kp (Nat.le_refl _) (setO_new R), rfl, q S c _ m (by omega) (I.hok.fresh (Nat.le_refl _))⟩
end
end Ev

end
section
set_option linter.all false
set_option maxHeartbeats 2000000
/-! sorted(xs) of data that can be compared place by place. -/
namespace Ev
open PySem PySem.Spec PyProof.Rows L2
section
variable {X : Cx} {pins : List (Addr × Obj)} {σ : L2.St} {H : Hp} {s : Shared}
mutual
theorem Rp.reads (I : Inv X pins σ H s) : ∀ {x : V} {d : D}, Rp X.K H x d → PySem.W.alike d d = true → ∀ u, RelV x u → ∃ as, Reads s.heap u d as
  | _, _, .non, _, u, r => by
    cases (show u = Value.none from r)
    exact ⟨_, .none⟩
  | _, _, .bl b, _, u, r => by
    cases (show u = Value.bool b from r)
    exact ⟨_, .bool b⟩
  | _, _, .int i, _, u, r => by
    obtain ⟨t, rfl⟩ := (show ∃ t, u = Value.int i t from r)
    exact ⟨_, .int i t⟩
  | _, _, .str x, _, u, r => by
    obtain ⟨t, rfl⟩ := (show ∃ t, u = Value.str x t from r)
    exact ⟨_, .str x t⟩
  | _, _, .lst (a := a) h q, al, u, r => by
    cases (show u = Value.ref a from r)
    obtain ⟨its, rv, ⟨o, n, e1, e2, e3, e4⟩, _⟩ := I.list (SqL.of h)
    obtain ⟨as, ra⟩ := RpL.reads I q (by simpa [PySem.W.alike] using al) _ rv
    exact ⟨_, .list e1 e2 e4 ra⟩
  | _, _, .tup (a := a) h q, al, u, r => by
    cases (show u = Value.ref a from r)
    obtain ⟨its, rv, ⟨o, e1, e2, n, e4⟩, _⟩ := I.tuple h
    obtain ⟨as, ra⟩ := RpL.reads I q (by simpa [PySem.W.alike] using al) _ rv
    exact ⟨_, .tuple e1 e2 e4 ra⟩
  | _, _, .dic _ _, al, _, _ => absurd al (by simp [PySem.W.alike])
  | _, _, .scr _ _, al, _, _ => absurd al (by simp [PySem.W.alike])
  | _, _, .dit _ _, al, _, _ => absurd al (by simp [PySem.W.alike])
theorem RpL.reads (I : Inv X pins σ H s) : ∀ {xs : List V} {ds : List D}, RpL X.K H xs ds → PySem.W.alikeAll ds ds = true → ∀ us, Vals xs us → ∃ as, ReadsAll s.heap us ds as
  | _, _, .nil, _, _, .nil => ⟨_, .nil⟩
  | _, _, .cons h q, al, _, .cons r t => by
    obtain ⟨a1, a2⟩ := PySem.W.alike_all_cons al
    obtain ⟨as, ra⟩ := Rp.reads I h a1 _ r
    obtain ⟨bs, rb⟩ := RpL.reads I q a2 _ t
    exact ⟨_, .cons ra rb⟩
end
end
section
variable {X : Cx}
def rSrt (K : Fg) : List V → Hp → VK → Prop := fun vs H Q => ∃ (F : Hp) (a : Addr) (xs : List V) (ds : List D), vs = [V.ref a] ∧ Sub F H ∧ SqL K H a xs ∧ RpL K F xs ds ∧ srtOk ds = true ∧
  ∀ (ys : List V) (p : Addr), RpL K F ys (srtD ds) → H p = none → Q (.ref p) (upd H p (.lst ys))
theorem each_zip {K : Fg} {F : Hp} : ∀ {xs : List V} {ds : List D} {its : List Value}, RpL K F xs ds → Vals xs its → PySem.W.EachIs (fun v (b : V × D) => RelV b.1 v ∧ Rp K F b.1 b.2) its (xs.zip ds)
  | _, _, _, .nil, .nil => .nil
  | _, _, _, .cons h q, .cons r t => .cons ⟨r, h⟩ (each_zip q t)
theorem each_back {K : Fg} {F : Hp} : ∀ {its : List Value} {bs : List (V × D)}, PySem.W.EachIs (fun v (b : V × D) => RelV b.1 v ∧ Rp K F b.1 b.2) its bs → Vals (bs.map (·.1)) its ∧ RpL K F (bs.map (·.1)) (bs.map (·.2))
  | _, _, .nil => ⟨.nil, .nil⟩
  | _, _, .cons h q => ⟨.cons h.1 (each_back q).1, .cons h.2 (each_back q).2⟩
theorem zip_snd {xs : List V} {ds : List D} (h : xs.length = ds.length) : (xs.zip ds).map (·.2) = ds := List.map_snd_zip (by omega)
theorem cr_srt (hu : X.A.units + 65 < cLine) : CallR X (.builtin "sorted") (rSrt X.K) := by
  intro pins s σ H vs us Q I r h
  obtain ⟨F, a, xs, ds, rfl, sb, hs, rx, ok, q⟩ := h
  obtain ⟨its, rv, pl, hz⟩ := I.list hs
  rw [Vals.ref1 r]
  unfold srtOk at ok
  simp only [Bool.and_eq_true, Bool.or_eq_true, decide_eq_true_eq, List.all_eq_true] at ok
  obtain ⟨o1, o2, o3, o4⟩ := ok
  have lz := zip_snd rx.length
  have hal : PySem.W.AllAlike ((xs.zip ds).map fun b : V × D => b.2) := by
    rw [lz]
    exact fun d hd d' hd' => o2 d hd d' hd'
  have hk : PySem.W.Sortable ((xs.zip ds).map fun b : V × D => b.2) := by
    rw [lz]
    rcases o3 with o3 | o3
    · refine .inl fun d hd => ?_
      have := o3 d hd
      unfold tupB at this
      split at this
      · exact ⟨_, _, rfl⟩
      · cases this
    · refine .inr fun d hd => ?_
      have := o3 d hd
      unfold othB at this
      split at this
      · cases this
      · cases this
      · rename_i n1 n2
        exact ⟨fun e => n2 e, fun ys e => n1 ys e⟩
  have hlen : (xs.zip ds).length = ds.length := by
    rw [List.length_zip, rx.length]
    omega
  have e0 := each_zip rx rv
  refine PySem.W.sorted_data (enc := fun b : V × D => b.2) (R := fun v b => RelV b.1 v ∧ Rp X.K F b.1 b.2) (by simpa using pl.isList) e0 ?_ hal hk (by rw [hlen, ← szl]; exact o1) (fun b hb => ?_) fun out ho eo => ?_
  · have al : ∀ d ∈ ds, PySem.W.alike d d = true := fun d hd => o2 d hd d hd
    refine (PySem.W.each_mem e0).mono fun v b ⟨⟨r1, r2⟩, hb⟩ => ?_
    exact (r2.mono sb).reads I (al _ (by rw [← lz]; exact List.mem_map_of_mem hb)) v r1
  · have : b.2 ∈ ds := by rw [← lz]; exact List.mem_map_of_mem hb
    have := o4 _ this
    omega
  · obtain ⟨v1, v2⟩ := each_back eo
    have es : ((xs.zip ds).mergeSort (PySem.W.dataLe false fun b : V × D => b.2)).map (·.2) = srtD ds := by
      have z := PySem.W.sort_maps (r := PySem.W.dataLe false fun b : V × D => b.2) (s := PySem.W.dataLe false id) (fun b : V × D => b.2) (l := xs.zip ds) (fun _ _ _ _ => rfl)
      rw [lz] at z
      exact z
    rw [es] at v2
    obtain ⟨ep, he⟩ := PyProof.Rows.sortedAll_at s.heap its out.toArray
    refine ⟨.ref _, upd H (s.heap.objs.size + 1) (.lst _), I.laid (t' := s.toks) (fun _ _ => PyProof.Rows.sortedAll_old) (Nat.le_succ _) ⟨?_, out, ep, v1, he⟩, rfl, q _ _ v2 (I.hok.fresh (Nat.le_succ _))⟩
    rw [List.length_map, List.length_mergeSort, hlen, ← szl]
    exact o1
end
end Ev

end
section
set_option linter.all false
set_option maxRecDepth 100000
set_option maxHeartbeats 4000000
/-! sorted, sorted(set()), list(d.values()), list(d). -/
namespace Ev
open PySem PySem.Spec PyProof.Rows L2
/-- what comes, perhaps behind an object that nobody keeps -/
inductive OutG (K : Fg) (F H : Hp) : TV → V → Hp → Prop
  | one {t : TV} {z : V} {H' : Hp} : Out K F H t z H' → OutG K F H t z H'
  | two {p : Addr} {o : HO} {t : TV} {z : V} {H' : Hp} : H p = none → Out K F (upd H p o) t z H' → OutG K F H t z H'
theorem OutG.post {K : Fg} {B : Bs} {σ : L2.St} {r : Env} {F H H' : Hp} {t : TV} {z : V} (s : StR K B F H σ r) (h : OutG K F H t z H') : ∃ F', Post K B σ r F H r F' H' ∧ TvR K H σ F' H' t z := by
  cases h with
  | one h => exact h.post s
  | @two p o _ _ _ n h =>
    have p0 := laid (o := o) s n
    obtain ⟨F', p1, t1⟩ := h.post p0.st
    exact ⟨F', p0.trans p1, t1.back p0.dom⟩
def rU (K : Fg) (u : U1) : V → Hp → VK → Prop := fun x H Q => ∃ F d t, Sub F H ∧ Rq K F H x d ∧ u1 u d = some t ∧ ∀ z H', OutG K F H t z H' → Q z H'
def tU (te : TE) (r : V → Hp → VK → Prop) : TE := fun σ H Q => te σ H fun x H1 => r x H1 Q
section
variable {X : Cx} {B : Bs} {a ex e : Expr} {te : TE} {f : Env → Res TV} {p p2 q apos cpos pos : Pos}
theorem rd_un {u : U1} {R : V → Hp → VK → Prop} (hp : ∀ te, PE X a te → PE X ex (tU te R)) (hR : ∀ x H Q, rU X.K u x H Q → R x H Q) (ha : PE X a (RdE X.K B f)) : PE X ex (RdE X.K B fun r => (f r).bind fun x r1 => match deref r1 x with
    | some d => .of (u1 u d) r1
    | none => .stuck) := by
  refine PE.imp (hp _ ha) fun σ H Q ⟨F, r, s, tv, r', e, k⟩ => ?_
  obtain ⟨x, r1, e1, e⟩ := bind_inv e
  refine ⟨F, r, s, x, r1, e1, fun xv F1 H1 p1 t1 => hR xv H1 Q ?_⟩
  split at e
  · rename_i d z
    obtain ⟨e2, rfl⟩ := of_inv e
    refine ⟨F1, d, tv, p1.st.sub, deref_rq p1.st t1 z, e2, fun y H' o => ?_⟩
    obtain ⟨F2, p2, t2⟩ := o.post p1.st
    exact k y F2 H' (p1.trans p2) (t2.back p1.dom)
  · cases e
/-! sorted -/
theorem boot_sorted : bootBuiltins ("sorted" : Str) = some (.builtin "sorted") := by decide +kernel
theorem boot_settype : bootBuiltins ("set" : Str) = some (.type "set") := by decide +kernel
theorem boot_listtype : bootBuiltins ("list" : Str) = some (.type "list") := by decide +kernel
theorem rd_srt (hu : X.A.units + 65 < cLine) (hg : Gl X "sorted") (hm : X.mg "sorted" = none) (hpl : plainE a = true) (ha : PE X a (RdE X.K B f)) :
    PE X (.Call (.Name "sorted" p) [a] [] pos) (RdE X.K B fun r => (f r).bind fun x r1 => match deref r1 x with
    | some d => .of (u1 .srt d) r1
    | none => .stuck) := by
  refine rd_un (u := .srt) (R := fun x H Q => rSrt X.K [x] H Q) (fun te ha => pe_callB (cr_srt hu) hg hm boot_sorted (pa_cons ha pa_nil (star_cons hpl)) (he := star_cons hpl) (hpl := star_any rfl)) (fun x H Q ⟨F, d, t, sb, hx, e, q⟩ => ?_) ha
  unfold u1 at e
  cases d <;> simp only [reduceCtorEq] at e
  split at e
  · rename_i ok
    cases e
    obtain ⟨l, xs, rfl, h1, r1⟩ := hx.lst sb
    exact ⟨F, l, xs, _, rfl, sb, SqL.of h1, r1, ok, fun ys p r2 hp => q _ _ (.one (.lst hp r2))⟩
  · cases e
theorem rd_sst (hc : X.calm = true) (hg : Gl X "sorted") (hm : X.mg "sorted" = none) (hg2 : Gl X "set") (hm2 : X.mg "set" = none) (hpl : plainE a = true) (ha : PE X a (RdE X.K B f)) :
    PE X (.Call (.Name "sorted" p) [.Call (.Name "set" p2) [a] [] q] [] pos) (RdE X.K B fun r => (f r).bind fun x r1 => match deref r1 x with
    | some d => .of (u1 .sst d) r1
    | none => .stuck) := by
  refine rd_un (u := .sst) (R := fun x H Q => rSetI X.K X.w [x] H fun y H2 => rSortedSet X.w [y] H2 Q)
    (fun te ha => pe_callB (cr_sortedSet hc) hg hm boot_sorted (pa_cons (pe_callTy (cr_setI hc) hg2 hm2 boot_settype (pa_cons ha pa_nil (star_cons hpl)) (he := star_cons hpl) (hpl := star_any rfl)) pa_nil (star_cons rfl)) (he := star_cons rfl) (hpl := star_any rfl)) (fun x H Q ⟨F, d, t, sb, hx, e, q⟩ => ?_) ha
  unfold u1 at e
  cases d <;> simp only [reduceCtorEq] at e
  split at e
  · rename_i l64
    rw [Option.map_eq_some_iff] at e
    obtain ⟨ns, e1, rfl⟩ := e
    obtain ⟨l, xs, rfl, h1, r1⟩ := hx.lst sb
    obtain rfl := intsL_V r1 e1
    have len : ns.length < 64 := by
      have := r1.length
      rw [List.length_map] at this
      omega
    refine ⟨l, ns, rfl, SqL.of h1, len, fun S c p m hc hp => ⟨p, S, c, rfl, upd_same, hc, fun ms p2 up mem _ hp2 => q _ _ (.two hp (.lst hp2 ?_))⟩⟩
    have : ms = sortU ns := up_same up (sortU_up ns) fun k => by rw [mem, m, mem_sortU]
    rw [this]
    exact RpL.of V.int PyData.int (fun i => .int i) _
  · cases e
/-! list(d.values()) -/
theorem paired_pt {α β : Type} {R : α → β → Prop} : ∀ {xs : List α} {ys : List β}, xs.length = ys.length → (∀ (i : Nat) (x : α) (y : β), xs[i]? = some x → ys[i]? = some y → R x y) → Paired R xs ys
  | [], [], _, _ => .nil
  | [], _ :: _, h, _ => by cases h
  | _ :: _, [], h, _ => by cases h
  | x :: xs, y :: ys, h, k => .cons (k 0 x y rfl rfl) (paired_pt (Nat.succ.inj h) fun i a b h1 h2 => k (i + 1) a b (by simpa using h1) (by simpa using h2))
def rVals : V → Hp → VK → Prop := fun x H Q => ∃ (d : Addr) (xs : List V), x = .ref d ∧ ((∃ kvs, H d = some (.dK kvs) ∧ xs = kvs.map (·.2)) ∨ (∃ kvs, H d = some (.dT kvs) ∧ xs = kvs.map (·.2))) ∧ ∀ p, H p = none → Q (.ref p) (upd H p (.lst xs))
/-- the dict's entries, and its values by them -/
theorem vals_raw {pins : List (Addr × Obj)} {σ : L2.St} {H : Hp} {s : Shared} {d : Addr} {xs : List V} (I : Inv X pins σ H s) (h : (∃ kvs, H d = some (.dK kvs) ∧ xs = kvs.map (·.2)) ∨ (∃ kvs, H d = some (.dT kvs) ∧ xs = kvs.map (·.2))) :
    (d == sysModules) = false ∧ xs.length ≤ sizeLine ∧ ∃ es ep, s.heap.DictRaw d es ep ∧ xs.length = es.size ∧ ∀ (i : Nat) (x : V) (hi : i < es.size), xs[i]? = some x → RelV x es[i].val := by
  rcases h with ⟨kvs, hd, rfl⟩ | ⟨kvs, hd, rfl⟩
  · obtain ⟨hz, nm, vs, kv, hdo⟩ := I.hok d _ hd
    obtain ⟨es, ep, raw, sz, ent⟩ := Heap.DictOf.raw hdo
    have lk : kvs.length = vs.length := Paired.length kv
    refine ⟨nm, by rw [List.length_map]; exact hz, es, ep, raw, by rw [List.length_map]; omega, fun i x hi e => ?_⟩
    rw [List.getElem?_map, Option.map_eq_some_iff] at e
    obtain ⟨p, e1, rfl⟩ := e
    obtain ⟨w, e2, _, e3⟩ := LiI.paired_get kv e1
    rw [(ent i hi w.1 w.2 e2).2]
    exact e3
  · obtain ⟨hz, nm, vs, kv, o, es, ep, e1, e2, e3, e4, _⟩ := I.hok d _ hd
    have lk : kvs.length = vs.length := Paired.length kv
    have sz : es.size = vs.length := by
      have := congrArg List.length e4
      rwa [Array.length_toList, List.length_map] at this
    refine ⟨nm, by rw [List.length_map]; exact hz, es, ep, ⟨o, e1, e2, e3⟩, by rw [List.length_map]; omega, fun i x hi e => ?_⟩
    rw [List.getElem?_map, Option.map_eq_some_iff] at e
    obtain ⟨p, q1, rfl⟩ := e
    obtain ⟨w, q2, _, _, q3⟩ := LiI.paired_get kv q1
    have q4 : es.toList[i]? = some es[i] := by rw [Array.getElem?_toList, Array.getElem?_eq_getElem hi]
    rw [e4, List.getElem?_map, q2] at q4
    rw [← Option.some.inj q4]
    exact q3
theorem pe_vals (hc : X.calm = true) (hg : Gl X "list") (hm : X.mg "list" = none) (hb : baseB e = true) (hl : (apos.endLine == cpos.line) = true) (he : PE X e te) :
    PE X (.Call (.Name "list" p) [.Call (.Attribute e "values" apos) [] [] cpos] [] pos) (tU te rVals) := by
  have hs : starEach [.Call (.Attribute e "values" apos) [] [] cpos] X.env = (false, eval (.Call (.Attribute e "values" apos) [] [] cpos) X.env) :: starEach [] X.env := star_cons rfl
  refine ⟨fun pins s σ H Q I h => ?_⟩
  refine wpAny_Call_Name_kw (ld_blt I hg hm boot_listtype (PyProof.Rows.callWith_type1 ?_ hs rfl))
  rw [hs]
  refine Calls.spliced_cons (show wpAny _ _ (eval (.Call (.Attribute e "values" apos) [] [] cpos) X.env) _ _ s from ?_)
  refine wpAny_Call_method (T := "dict") (id := "dict.values") (base_ok hb) rfl hl F.plainAttrs_dict F.slot_dict_values F.type_dict_values (thn (he.run pins s σ H _ I h) fun u s1 ⟨x, H1, I1, rx, d, xs, ex, hd, q⟩ => ?_)
  subst ex
  obtain rfl : u = Value.ref d := rx
  obtain ⟨nm, len, es, ep, raw, sz, rel⟩ := vals_raw I1 hd
  refine ⟨raw.typeIs, fun b z => ?_, (method_meetsIn F.slot_dict_values F.entry_dict_values rfl (PySem.evalArgs_none ⟨rfl, raw.typeIs, F.args_dict_values_1 _, _, meets_dict_values_raw d nm, ⟨es, ep, raw⟩, Calls.spliced_nil ?_⟩))⟩
  · obtain ⟨o, ho, hx, _⟩ := raw
    cases z
    exact ⟨o, ho, hx.2.1⟩
  refine PySem.W.kdl_call (KdlSrc.rawValues (es := es) (ep := ep)) (I1.ok.hd hc) ⟨⟨_, Heap.get?_push_size _ rfl, rfl, rfl⟩, raw.push _⟩ (by omega) fun h' tk acc c kp hS it => ?_
  have up : ∀ b o, s1.heap.get? b = some o → h'.get? b = some o := fun b o z => kp b o (Heap.get?_push_of_some _ z)
  have rv : Vals xs acc.toList := paired_pt (ys := acc.toList) (by rw [sz]; exact it.1.symm.trans Array.length_toList.symm) fun i x v q1 q2 => by
    rw [Array.getElem?_toList] at q2
    obtain ⟨hi, rfl⟩ := it.2 i v q2
    exact rel i x hi q1
  have hz : s1.heap.objs.size ≤ (s1.heap.push { cls := .type "dict_values", data := .fields #[.ref d] }).objs.size := by
    rw [Heap.size_push]
    exact Nat.le_succ _
  exact ⟨.ref _, upd H1 _ (.lst xs), I1.laid (t' := tk) up hz ⟨len, acc.toList, c, rv, hS⟩, rfl, q _ (I1.hok.fresh hz)⟩
theorem itemsD_inv {K : Fg} {F H : Hp} {x : V} {d : D} {ps : List (D × D)} (s : Sub F H) (hx : Rq K F H x d) (e : itemsD d = some ps) :
    ∃ a, x = .ref a ∧ ((∃ kvs, H a = some (.dK kvs) ∧ RpK K F kvs ps) ∨ ∃ kvs, H a = some (.dT kvs) ∧ RpT K F kvs ps) := by
  unfold itemsD at e
  split at e
  · cases e
  · cases e
    obtain ⟨a, kvs, e1, e2, e3⟩ := hx.dit s
    exact ⟨a, e1, .inr ⟨kvs, e2, e3⟩⟩
  · split at e
    · rename_i hk
      cases e
      obtain ⟨a, kvs, e1, e2, e3⟩ := hx.dic s hk
      exact ⟨a, e1, .inl ⟨kvs, e2, e3⟩⟩
    · cases e
  · cases e
theorem RpK.snd {K : Fg} {F : Hp} : ∀ {kvs : List (Key × V)} {ps : List (D × D)}, RpK K F kvs ps → RpL K F (kvs.map (·.2)) (ps.map (·.2))
  | _, _, .nil => .nil
  | _, _, .cons h r => .cons h r.snd
theorem RpT.snd {K : Fg} {F : Hp} : ∀ {kvs : List (List Key × V)} {ps : List (D × D)}, RpT K F kvs ps → RpL K F (kvs.map (·.2)) (ps.map (·.2))
  | _, _, .nil => .nil
  | _, _, .cons h r => .cons h r.snd
theorem rd_lvs (hc : X.calm = true) (hg : Gl X "list") (hm : X.mg "list" = none) (hb : baseB a = true) (hl : (apos.endLine == cpos.line) = true) (ha : PE X a (RdE X.K B f)) :
    PE X (.Call (.Name "list" p) [.Call (.Attribute a "values" apos) [] [] cpos] [] pos) (RdE X.K B fun r => (f r).bind fun x r1 => match deref r1 x with
    | some d => .of (u1 .lvs d) r1
    | none => .stuck) := by
  refine rd_un (u := .lvs) (R := rVals) (fun te ha => pe_vals hc hg hm hb hl ha) (fun x H Q ⟨F, d, t, sb, hx, e, q⟩ => ?_) ha
  have e' : (itemsD d).map (fun ps => TV.f (.list (ps.map (·.2)))) = some t := e
  rw [Option.map_eq_some_iff] at e'
  obtain ⟨ps, e1, rfl⟩ := e'
  obtain ⟨a, rfl, ⟨kvs, h1, r1⟩ | ⟨kvs, h1, r1⟩⟩ := itemsD_inv sb hx e1
  · exact ⟨a, _, rfl, .inl ⟨kvs, h1, rfl⟩, fun p hp => q _ _ (.one (.lst hp r1.snd))⟩
  · exact ⟨a, _, rfl, .inr ⟨kvs, h1, rfl⟩, fun p hp => q _ _ (.one (.lst hp r1.snd))⟩
theorem rng_eq : ∀ (n : Nat) (lo : Int), rng lo n = (List.range n).map fun i => PyData.int (lo + (i : Nat))
  | 0, _ => rfl
  | n + 1, lo => by
    show PyData.int lo :: rng (lo + 1) n = _
    rw [rng_eq n (lo + 1), List.range_succ_eq_map, List.map_cons, List.map_map]
    congr 1
    · simp
    · apply List.map_congr_left
      intro i _
      simp only [Function.comp]
      congr 1
      omega
theorem rd_lrg (hc : X.calm = true) (hg : Gl X "list") (hm : X.mg "list" = none) (hg2 : Gl X "range") (hm2 : X.mg "range" = none) (hpl : plainE a = true) (ha : PE X a (RdE X.K B f)) :
    PE X (.Call (.Name "list" p) [.Call (.Name "range" p2) [a] [] q] [] pos) (RdE X.K B fun r => (f r).bind fun x r1 => match deref r1 x with
    | some d => .of (u1 .lrg d) r1
    | none => .stuck) := by
  refine rd_un (u := .lrg) (R := fun x H Q => ∃ n : Int, x = .int n ∧ RgOk 0 n ∧ ∀ q, H q = none → Q (.ref q) (upd H q (.lst (rgV 0 n)))) (fun te ha => pe_listRg hc hg hm (prg_1 hg2 hm2 ha (star_cons hpl)) (star_cons rfl)) (fun x H Q ⟨F, d, t, sb, hx, e, q⟩ => ?_) ha
  unfold u1 at e
  cases d <;> simp only [reduceCtorEq] at e
  split at e
  · rename_i n h
    cases e
    refine ⟨n, hx.int, RgOk.of_le (Int.le_refl _) h.2 (by omega) h.1, fun c hc => q _ _ (.one (.lst hc ?_))⟩
    rw [rng_eq]
    unfold rgV
    rw [Int.sub_zero]
    exact RpL.of _ _ (fun i => .int _) _
  · cases e
end
end Ev

end
section
set_option linter.all false
set_option maxHeartbeats 4000000
/-! A look at a text's tree beside the evaluator's. -/
namespace Ev
open PySem PySem.Spec PyProof.Rows L2
/-- what is known of the names: slots, defs, free built-ins, globals -/
structure Ck where
  N : List Str
  fl : List Str
  bs : List Str
  gl : List (Str × D)
mutual
def beqD : D → D → Bool
  | .none, .none => true
  | .bool a, .bool b => a == b
  | .int a, .int b => a == b
  | .str a, .str b => a == b
  | .tuple l, .tuple m => beqDs l m
  | .list l, .list m => beqDs l m
  | .dict l, .dict m => beqDp l m
  | _, _ => false
def beqDs : List D → List D → Bool
  | [], [] => true
  | a :: l, b :: m => beqD a b && beqDs l m
  | _, _ => false
def beqDp : List (D × D) → List (D × D) → Bool
  | [], [] => true
  | (a, x) :: l, (b, y) :: m => beqD a b && (beqD x y && beqDp l m)
  | _, _ => false
end
mutual
theorem beqD_ok : ∀ {a b : D}, beqD a b = true → a = b
  | .none, b, h => by cases b <;> first | rfl | (simp [beqD] at h)
  | .bool a, b, h => by cases b <;> simp [beqD] at h; subst h; rfl
  | .int a, b, h => by cases b <;> simp [beqD] at h; subst h; rfl
  | .str a, b, h => by cases b <;> simp [beqD] at h; subst h; rfl
  | .tuple l, b, h => by
    cases b <;> simp [beqD] at h
    rw [beqDs_ok h]
  | .list l, b, h => by
    cases b <;> simp [beqD] at h
    rw [beqDs_ok h]
  | .dict l, b, h => by
    cases b <;> simp [beqD] at h
    rw [beqDp_ok h]
theorem beqDs_ok : ∀ {a b : List D}, beqDs a b = true → a = b
  | [], b, h => by cases b <;> first | rfl | (simp [beqDs] at h)
  | a :: l, b, h => by
    cases b with
    | nil => simp [beqDs] at h
    | cons b m =>
      simp only [beqDs, Bool.and_eq_true] at h
      rw [beqD_ok h.1, beqDs_ok h.2]
theorem beqDp_ok : ∀ {a b : List (D × D)}, beqDp a b = true → a = b
  | [], b, h => by cases b <;> first | rfl | (simp [beqDp] at h)
  | (a, x) :: l, b, h => by
    cases b with
    | nil => simp [beqDp] at h
    | cons b m =>
      obtain ⟨b, y⟩ := b
      simp only [beqDp, Bool.and_eq_true] at h
      rw [beqD_ok h.1, beqD_ok h.2.1, beqDp_ok h.2.2]
end
def glIs (gl : List (Str × D)) (x : Str) (d : D) : Bool := match gl.lookup x with
  | some e => beqD e d
  | none => false
theorem glIs_ok {gl : List (Str × D)} {x : Str} {d : D} (h : glIs gl x d = true) : gl.lookup x = some d := by
  unfold glIs at h
  split at h
  · rename_i e he
    rw [he, beqD_ok h]
  · cases h
def visB (sc : Scope) (x : Str) : Bool := match sc.names.lookup x with
  | some .local => true
  | some .cell => true
  | some .free => true
  | _ => false
def locB (sc : Scope) (x : Str) : Bool := match sc.names.lookup x with
  | some .local => true
  | some .cell => true
  | _ => false
def isLoc (sc : Scope) (x : Str) : Bool := match sc.names.lookup x with
  | some .local => true
  | _ => false
def glB (sc : Scope) (x : Str) : Bool := match sc.names.lookup x with
  | some .globalImplicit => true
  | _ => false
def dbgB (x : Str) : Bool := !(x == ("__debug__" : Str)) && !(x == ("__classdict__" : Str))
def slotB (c : Ck) (i : Nat) (x : Str) : Bool := match c.N[i]? with
  | some y => y == x
  | none => false
def nameB (c : Ck) (i : Nat) (sc : Scope) : Expr → Bool
  | .Name x _ => slotB c i x && (visB sc x && dbgB x)
  | _ => false
def freeB (c : Ck) (sc : Scope) (x y : Str) : Bool := (x == y) && (c.bs.contains x && glB sc x)
def notSet : Expr → Bool
  | .Set _ _ _ => false
  | _ => true
def plainIxB : Expr → Bool
  | .Slice _ _ _ _ => false
  | _ => true
def cstEq : Const → Const → Bool
  | .none, .none => true
  | .bool a, .bool b => a == b
  | .int a, .int b => a == b
  | .str a, .str b => a == b
  | _, _ => false
def blkB (N : List Str) (sc scope : Scope) (own : List (Str × Nat)) : Bool :=
  decide (scope.kind = .function) && (scope.names.all (fun y => decide (scope.names.lookup y.1 = some y.2)) && (own.all (fun p => decide (N[p.2]? = some p.1)) &&
    (scope.names.all (fun y => !decide (y.2 = .free) || (decide (sc.names.lookup y.1 = some .cell) || decide (sc.names.lookup y.1 = some .free))) &&
    scope.names.all (fun y => !(decide (y.2 = .local) || decide (y.2 = .cell)) || ((own.map (·.1)).contains y.1 || !N.contains y.1)))))
mutual
def chG (c : Ck) (fnB : Str → Bool) (sc : Scope) : IT → Expr → Bool
  | .n i m, e => match e with
    | .Name x _ => !m && (slotB c i x && (locB sc x && (fnB x || isLoc sc x)))
    | _ => false
  | .t l, e => match e with
    | .Tuple es _ _ => es.all plainE && ((es.length == l.length) && chGs c fnB sc l es)
    | _ => false
def chGs (c : Ck) (fnB : Str → Bool) (sc : Scope) : List IT → List Expr → Bool
  | [], [] => true
  | t :: ts, e :: es => chG c fnB sc t e && chGs c fnB sc ts es
  | _, _ => false
end
abbrev cfn (scope : Scope) : Str → Bool := fun x => scope.names.lookup x == some .cell
mutual
def chE (c : Ck) : Scope → IE → Expr → Bool
  | sc, .cst d, e => match e with
    | .Constant d' _ _ => cstEq d d'
    | _ => false
  | sc, .var i, e => match e with
    | .Name x _ => slotB c i x && (visB sc x && dbgB x)
    | _ => false
  | sc, .glob y d, e => match e with
    | .Name x _ => (x == y) && (glB sc x && (dbgB x && glIs c.gl x d))
    | _ => false
  | sc, .bin o a b, e => match e with
    | .BinOp l op r _ => decide (op = opB o) && (chE c sc a l && chE c sc b r)
    | _ => false
  | sc, .neg a, e => match e with
    | .UnaryOp .USub x _ => chE c sc a x
    | _ => false
  | sc, .cmp o a b, e => match e with
    | .Compare l [op] [r] _ => decide (op = opC o) && (!behindInMarks (opC o) r && (chE c sc a l && chE c sc b r))
    | _ => false
  | sc, .chn o p a b d, e => match e with
    | .Compare l [op, op'] [r, q] _ => decide (op = opC o) && (decide (op' = opC p) && (!lastMarks [opC o, opC p] [r, q] && (chE c sc a l && (chE c sc b r && chE c sc d q))))
    | _ => false
  | sc, .not a, e => match e with
    | .UnaryOp .Not x _ => chE c sc a x
    | _ => false
  | sc, .and a b, e => match e with
    | .BoolOp .And (e1 :: rest) pos => chE c sc a e1 && (match rest with
      | [] => false
      | [e2] => chE c sc b e2
      | e2 :: e3 :: r => chE c sc b (.BoolOp .And (e2 :: e3 :: r) pos))
    | _ => false
  | sc, .or a b, e => match e with
    | .BoolOp .Or (e1 :: rest) pos => chE c sc a e1 && (match rest with
      | [] => false
      | [e2] => chE c sc b e2
      | e2 :: e3 :: r => chE c sc b (.BoolOp .Or (e2 :: e3 :: r) pos))
    | _ => false
  | sc, .ife t a b, e => match e with
    | .IfExp t' a' b' _ => chE c sc t t' && (chE c sc a a' && chE c sc b b')
    | _ => false
  | sc, .tup l, e => match e with
    | .Tuple es _ _ => chA c sc l es
    | _ => false
  | sc, .lst l, e => match e with
    | .List es _ => chA c sc l es
    | _ => false
  | sc, .idx a i, e => match e with
    | .Subscript x y _ => plainIxB y && (chE c sc a x && chE c sc i y)
    | _ => false
  | sc, .slc a lo hi, e => match e with
    | .Subscript x (.Slice l h none _) _ => chE c sc a x && (chO c sc lo l && chO c sc hi h)
    | _ => false
  | sc, .isi a t, e => match e with
    | .Call (.Name f _) [x, .Name y _] [] _ => freeB c sc f "isinstance" && (freeB c sc y (tyN t) && (plainE x && chE c sc a x))
    | _ => false
  | sc, .call f y l, e => match e with
    | .Call (.Name x _) es [] _ => (match c.fl[f]? with
      | some z => z == x
      | none => false) && (glB sc x && (dbgB x && (es.all plainE && chR c sc l es)))
    | _ => false
  | sc, .bl1 b a, e => match e with
    | .Call (.Name f _) [x] [] _ => freeB c sc f (b1N b) && (plainE x && chE c sc a x)
    | _ => false
  | sc, .un u a, e => match u with
    | .srt => match e with
      | .Call (.Name f _) [x] [] _ => freeB c sc f "sorted" && (plainE x && chE c sc a x)
      | _ => false
    | .sst => match e with
      | .Call (.Name f _) [.Call (.Name g _) [x] [] _] [] _ => freeB c sc f "sorted" && (freeB c sc g "set" && (plainE x && chE c sc a x))
      | _ => false
    | .lvs => match e with
      | .Call (.Name f _) [.Call (.Attribute x m ap) [] [] cp] [] _ => freeB c sc f "list" && ((m == ("values" : Str)) && (baseB x && ((ap.endLine == cp.line) && chE c sc a x)))
      | _ => false
    | .lrg => match e with
      | .Call (.Name f _) [.Call (.Name g _) [x] [] _] [] _ => freeB c sc f "list" && (freeB c sc g "range" && (plainE x && chE c sc a x))
      | _ => false
    | _ => false
  | sc, .bl2 b a d, e => match e with
    | .Call (.Name f _) [x, y] [] _ => freeB c sc f (b2N b) && (plainE x && (plainE y && (chE c sc a x && chE c sc d y)))
    | _ => false
  | sc, .dsp ks l, e => match e with
    | .Dict keys vs _ => chP c sc ks l keys vs
    | _ => false
  | sc, .mg1 o k, e => match e with
    | .Call (.Attribute x m ap) [y] [] cp => (m == ("get" : Str)) && (baseB x && (plainE y && ((ap.endLine == cp.line) && (chE c sc o x && chE c sc k y))))
    | _ => false
  | sc, .mg2 o k d, e => match e with
    | .Call (.Attribute x m ap) [y, z] [] cp => (m == ("get" : Str)) && (baseB x && (plainE y && (plainE z && ((ap.endLine == cp.line) && (chE c sc o x && (chE c sc k y && chE c sc d z))))))
    | _ => false
  | sc, .emp _, e => match e with
    | .Dict [] [] _ => true
    | _ => false
  | sc, .din n k d, e => match e with
    | .Compare x [op] [y] _ => decide (op = (if n = true then .NotIn else .In)) && (!behindInMarks op y && (chE c sc k x && chE c sc d y))
    | _ => false
  | sc, .dix d k, e => match e with
    | .Subscript x y _ => plainIxB y && (chE c sc d x && chE c sc k y)
    | _ => false
  | sc, .sdk d k v, e => match e with
    | .Dict [none, some y] [x, z] _ => chE c sc d x && (chE c sc k y && chE c sc v z)
    | _ => false
  | sc, .tin n l d, e => match e with
    | .Compare (.Tuple es _ _) [.In] [y] _ => !n && (!behindInMarks .In y && (chA c sc l es && chE c sc d y))
    | _ => false
  | sc, .tix d l, e => match e with
    | .Subscript x (.Tuple es _ _) _ => chE c sc d x && chA c sc l es
    | _ => false
  | sc, .tg1 d l, e => match e with
    | .Call (.Attribute x m ap) [.Tuple es _ _] [] cp => (m == ("get" : Str)) && (baseB x && ((ap.endLine == cp.line) && (chE c sc d x && chA c sc l es)))
    | _ => false
  | sc, .tg2 d l v, e => match e with
    | .Call (.Attribute x m ap) [.Tuple es _ _, z] [] cp => (m == ("get" : Str)) && (baseB x && (plainE z && ((ap.endLine == cp.line) && (chE c sc d x && (chA c sc l es && chE c sc v z)))))
    | _ => false
  | sc, .sdt d l v, e => match e with
    | .Dict [none, some (.Tuple es _ _)] [x, z] _ => chE c sc d x && (chA c sc l es && chE c sc v z)
    | _ => false
  | sc, .cm1 own elt t it cn, e => match e with
    | .ListComp elt' [g] scope _ => (g.is_async == 0) && (notSet g.iter && (chI c sc it g.target g.iter && (blkB c.N sc scope own && (chG c (cfn scope) (relS scope sc) t g.target && (chT c (relS scope sc) cn g.ifs && (chE c (relS scope sc) elt elt' &&
        (slotsT t).all (fun i => (own.map (·.2)).contains i)))))))
    | _ => false
  | sc, .cmo own elt t i cn, e => match e with
    | .ListComp elt' [g] scope _ => (g.is_async == 0) && (notSet g.iter && (nameB c i sc g.iter && (blkB c.N sc scope own && (chG c (cfn scope) (relS scope sc) t g.target && (chT c (relS scope sc) cn g.ifs && (chE c (relS scope sc) elt elt' &&
        (slotsT t).all (fun i => (own.map (·.2)).contains i)))))))
    | _ => false
  | sc, .cm2 own own2 elt t it cn t2 it2 cn2, e => match e with
    | .ListComp elt' [g, g2] scope _ => (g.is_async == 0) && (notSet g.iter && (chI c sc it g.target g.iter && (blkB c.N sc scope own && (chG c (cfn scope) (relS scope sc) t g.target && (chT c (relS scope sc) cn g.ifs && (chE c (relS scope sc) elt elt' &&
        ((slotsT t).all (fun i => (own.map (·.2)).contains i) && ((g2.is_async == 0) && (notSet g2.iter && (chI c (relS scope sc) it2 g2.target g2.iter && (chG c (cfn scope) (relS scope sc) t2 g2.target && (chT c (relS scope sc) cn2 g2.ifs &&
        ((slotsT t2).all (fun i => own2.contains i) && own2.all (fun i => (own.map (·.2)).contains i))))))))))))))
    | _ => false
def chA (c : Ck) : Scope → IA → List Expr → Bool
  | sc, .nil, es => match es with
    | [] => true
    | _ => false
  | sc, .cons a l, es => match es with
    | e :: r => plainE e && (chE c sc a e && chA c sc l r)
    | _ => false
  | _, .lend _ _, _ => false
def chR (c : Ck) : Scope → IA → List Expr → Bool
  | sc, .nil, es => match es with
    | [] => true
    | _ => false
  | sc, .cons a l, es => match es with
    | e :: r => plainE e && (chE c sc a e && chR c sc l r)
    | _ => false
  | sc, .lend i l, es => match es with
    | .Name x _ :: r => slotB c i x && (visB sc x && (dbgB x && chR c sc l r))
    | _ => false
def chP (c : Ck) : Scope → List Const → IA → List (Option Expr) → List Expr → Bool
  | sc, k :: ks, .cons a l, some (.Constant k' _ _) :: r, e :: es => keyCB k && (cstEq k k' && (chE c sc a e && chP c sc ks l r es))
  | sc, .int i :: ks, .cons a l, some (.UnaryOp .USub (.Constant (.int j) _ _) _) :: r, e :: es => decide (i = -j) && (chE c sc a e && chP c sc ks l r es)
  | sc, [], .nil, [], [] => true
  | _, _, _, _, _ => false
def chO (c : Ck) : Scope → IO → Option Expr → Bool
  | sc, .no, e => match e with
    | none => true
    | _ => false
  | sc, .yes a, e => match e with
    | some x => chE c sc a x
    | _ => false
def chT (c : Ck) : Scope → IO → List Expr → Bool
  | sc, .no, e => match e with
    | [] => true
    | _ => false
  | sc, .yes a, e => match e with
    | [x] => chE c sc a x
    | _ => false
def chI (c : Ck) : Scope → II → Expr → Expr → Bool
  | sc, .val a, tg, e => chE c sc a e
  | sc, .rg1 a, tg, e => match e with
    | .Call (.Name f _) [x] [] _ => freeB c sc f "range" && (plainE x && chE c sc a x)
    | _ => false
  | sc, .rg2 a b, tg, e => match e with
    | .Call (.Name f _) [x, y] [] _ => freeB c sc f "range" && (plainE x && (plainE y && (chE c sc a x && chE c sc b y)))
    | _ => false
  | sc, .enm a, tg, e => match tg, e with
    | .Tuple _ _ _, .Call (.Name f _) [x] [] _ => freeB c sc f "enumerate" && (plainE x && chE c sc a x)
    | _, _ => false
  | sc, .zip a b, tg, e => match tg, e with
    | .Tuple _ _ _, .Call (.Name f _) [x, y] [] _ => freeB c sc f "zip" && (plainE x && (plainE y && (chE c sc a x && chE c sc b y)))
    | _, _ => false
end
end Ev

end
section
set_option linter.all false
set_option maxHeartbeats 4000000
namespace Ev
open PySem PySem.Spec PyProof.Rows L2
def FnC (X : Cx) (call : Nat → List Sl → CR) (i : Nat) (x : Str) : Prop :=
  ∃ (k : Nat) (ad : Addr) (fd : FuncData) (ps : List Str), FnOk X.prog X.w X.K X.mg X.base L2.CX0 k ad fd ps (spOf X.K (call i)) ∧ Room k X.A ∧ X.mg x = some (.ref ad) ∧ PySem.W.keepIn X.K (.ref ad) = true ∧ Binds X.K fd ps []
def GlC (X : Cx) (x : Str) (d : D) : Prop := ∃ (u : Value) (v : V), X.mg x = some u ∧ RelV v u ∧ Rp X.K (fun _ => none) v d
/-- what a frame's context must have -/
structure Ct (c : Ck) (call : Nat → List Sl → CR) (sc : Scope) (fnB : Str → Bool) (X : Cx) : Prop where
  N : X.N = c.N
  nd : c.N.Nodup
  calm : X.calm = true
  un : X.A.units + 65 < cLine
  bs : ∀ x ∈ c.bs, X.mg x = none
  fn : ∀ (i : Nat) (x : Str), c.fl[i]? = some x → FnC X call i x
  gl : ∀ (x : Str) (d : D), c.gl.lookup x = some d → GlC X x d
  sc : X.env.scope = sc
  fnb : ∀ x, fnB x = true → X.fn x = true
theorem Ct.blk {c : Ck} {call : Nat → List Sl → CR} {sc : Scope} {fnB : Str → Bool} {X : Cx} (h : Ct c call sc fnB X) (s : Shared) (H : Hp) (scope : Scope) (cl : List (Str × Addr)) (C : Addr) (fp : List Addr) :
    Ct c call (relS scope sc) (cfn scope) (X.blk s H scope (compEnvC scope cl C X.env) fp) where
  N := h.N
  nd := h.nd
  calm := h.calm
  un := h.un
  bs := h.bs
  fn := h.fn
  gl := h.gl
  sc := by
    have e := h.sc
    subst e
    rfl
  fnb := fun x hx => hx
theorem slotB_ok {c : Ck} {i : Nat} {x : Str} (h : slotB c i x = true) : c.N[i]? = some x := by
  unfold slotB at h
  split at h
  · rename_i y hy
    rw [hy, eq_of_beq h]
  · cases h
theorem visB_ok {sc : Scope} {x : Str} (h : visB sc x = true) : Vis sc x := by
  unfold visB at h
  split at h
  · rename_i e; exact .inl e
  · rename_i e; exact .inr (.inl e)
  · rename_i e; exact .inr (.inr e)
  · cases h
theorem locB_ok {sc : Scope} {x : Str} (h : locB sc x = true) : Loc sc x := by
  unfold locB at h
  split at h
  · rename_i e; exact .inl e
  · rename_i e; exact .inr e
  · cases h
theorem isLoc_ok {sc : Scope} {x : Str} (h : isLoc sc x = true) : sc.names.lookup x = some .local := by
  unfold isLoc at h
  split at h
  · assumption
  · cases h
theorem glB_ok {X : Cx} {sc : Scope} {x : Str} (e : X.env.scope = sc) (h : glB sc x = true) : Gl X x := by
  unfold glB at h
  split at h
  · rename_i q
    subst e
    exact q
  · cases h
theorem dbgB_ok {x : Str} (h : dbgB x = true) : (x == ("__debug__" : Str)) = false ∧ (x == ("__classdict__" : Str)) = false := by
  unfold dbgB at h
  simpa using h
theorem freeB_ok {c : Ck} {call : Nat → List Sl → CR} {sc : Scope} {fnB : Str → Bool} {X : Cx} (ct : Ct c call sc fnB X) {x y : Str} (h : freeB c sc x y = true) : x = y ∧ X.mg y = none ∧ Gl X y := by
  unfold freeB at h
  rw [Bool.and_eq_true, Bool.and_eq_true] at h
  have e := eq_of_beq h.1
  subst e
  exact ⟨rfl, ct.bs _ (by simpa using h.2.1), glB_ok ct.sc h.2.2⟩
theorem cstEq_ok {a b : Const} (h : cstEq a b = true) : a = b := by
  cases a <;> cases b <;> simp [cstEq] at h <;> first | rfl | (subst h; rfl)
/-- is the test of it the truth of its value? -/
def plainT : Expr → Bool
  | .UnaryOp .Not _ _ => false
  | .BoolOp _ _ _ => false
  | .IfExp _ _ _ _ => false
  | .Compare _ _ _ _ => false
  | _ => true
theorem plainT_ok {e : Expr} {env : PySem.Env} (h : plainT e = true) : ∀ whole, isTrue e env whole = (do let v ← whole; standAt e.pos; holding [v] (truthy v)) := by
  intro whole
  cases e with
  | UnaryOp op x p =>
    cases op with
    | Not => simp [plainT] at h
    | _ => rfl
  | BoolOp => simp [plainT] at h
  | IfExp => simp [plainT] at h
  | Compare => simp [plainT] at h
  | _ => rfl
def Tri (X : Cx) (B : Bs) (ex : Expr) (p : (Env → Res TV) × (Env → Res Bool)) : Prop :=
  PE X ex (RdE X.K B p.1) ∧ PT X ex (RdC X.K B p.2) ∧ ((∃ op l q, ex = .BoolOp op l q) → PW X ex (RdC X.K B p.2))
theorem tri {X : Cx} {B : Bs} {ex : Expr} {f : Env → Res TV} (h : PE X ex (RdE X.K B f)) (hp : plainT ex = true) : Tri X B ex (tst f) :=
  ⟨h, rd_tst (plainT_ok hp) h, fun ⟨op, l, q, e⟩ => by subst e; simp [plainT] at hp⟩
theorem folded_ok {e : Expr} {env : PySem.Env} (h : notSet e = true) : ∀ x, foldedSetIterable e env x = pure x := by
  intro x
  cases e <;> first | rfl | (simp [notSet] at h)
theorem plainIx_ok {e : Expr} (h : plainIxB e = true) : PlainIx e := by
  intro o i
  cases e <;> first | rfl | (simp [plainIxB] at h)
theorem blkB_ok {N : List Str} {sc scope : Scope} {own : List (Str × Nat)} (h : blkB N sc scope own = true) : BlkOk N sc scope own := by
  unfold blkB at h
  simp only [Bool.and_eq_true, List.all_eq_true, decide_eq_true_eq, Bool.or_eq_true, Bool.not_eq_true', decide_eq_false_iff_not, List.contains_iff_mem] at h
  obtain ⟨h1, h2, h3, h4, h5⟩ := h
  refine ⟨h1, h2, h3, fun y hy e => ?_, fun y hy e => ?_⟩
  · rcases h4 y hy with z | z
    · exact absurd e z
    · exact z
  · rcases h5 y hy with z | z
    · simp only [Bool.or_eq_false_iff, decide_eq_false_iff_not] at z
      rcases e with e | e
      · exact absurd e z.1
      · exact absurd e z.2
    · rcases z with z | z
      · exact .inl z
      · exact .inr (by simpa using z)
theorem sub_ok {l m : List Nat} (h : (l.all fun i => m.contains i) = true) : ∀ i ∈ l, i ∈ m := by
  intro i hi
  rw [List.all_eq_true] at h
  simpa using h i hi
section
variable {c : Ck} {call : Nat → List Sl → CR} {fnB : Str → Bool}
mutual
theorem okG {sc : Scope} {X : Cx} {B : Bs} (ct : Ct c call sc fnB X) : ∀ (t : IT) (ex : Expr), chG c fnB sc t ex = true → PG X ex (RdG X.K B t)
  | .n i m, ex, h => by
    unfold chG at h
    split at h
    · rename_i x p
      simp only [Bool.and_eq_true, Bool.not_eq_true', Bool.or_eq_true] at h
      obtain ⟨h1, h2, h3, h4⟩ := h
      subst h1
      refine rg_name (ct.N ▸ ct.nd) (ct.N ▸ slotB_ok h2) (ct.sc ▸ locB_ok h3) ?_
      rcases h4 with h4 | h4
      · exact .inl (ct.fnb _ h4)
      · exact .inr (ct.sc ▸ isLoc_ok h4)
    · cases h
  | .t l, ex, h => by
    unfold chG at h
    split at h
    · rename_i es k p
      simp only [Bool.and_eq_true] at h
      obtain ⟨h1, h2, h3⟩ := h
      exact rg_tup ct.calm h1 (eq_of_beq h2) (okGs ct l es h3 h1)
    · cases h
theorem okGs {sc : Scope} {X : Cx} {B : Bs} (ct : Ct c call sc fnB X) : ∀ (t : List IT) (es : List Expr), chGs c fnB sc t es = true → es.all plainE = true → PGs X es (RdGs X.K B t)
  | [], [], _, _ => rgs_nil
  | [], _ :: _, h, _ => by simp [chGs] at h
  | _ :: _, [], h, _ => by simp [chGs] at h
  | t :: ts, e :: es, h, hp => by
    simp only [chGs, Bool.and_eq_true] at h
    rw [List.all_cons, Bool.and_eq_true] at hp
    exact rgs_cons hp.1 (okG ct t e h.1) (okGs ct ts es h.2 hp.2)
end
end
def OkE (c : Ck) (call : Nat → List Sl → CR) (e : IE) : Prop := ∀ (sc : Scope) (fnB : Str → Bool) (X : Cx) (B : Bs) (ex : Expr), Ct c call sc fnB X → chE c sc e ex = true → Tri X B ex (ev call e)
def OkA (c : Ck) (call : Nat → List Sl → CR) (l : IA) : Prop := ∀ (sc : Scope) (fnB : Str → Bool) (X : Cx) (B : Bs) (es : List Expr), Ct c call sc fnB X → chA c sc l es = true → PA X es (RdA X.K B (evA call l))
def OkR (c : Ck) (call : Nat → List Sl → CR) (l : IA) : Prop := ∀ (sc : Scope) (fnB : Str → Bool) (X : Cx) (B : Bs) (es : List Expr), Ct c call sc fnB X → chR c sc l es = true → PA X es (RdR X.K B (evR call l)) ∧ (es = [] → evR call l = fun r => .ok [] r)
def OkP (c : Ck) (call : Nat → List Sl → CR) (l : IA) : Prop := ∀ (sc : Scope) (fnB : Str → Bool) (X : Cx) (B : Bs) (ks : List Const) (keys : List (Option Expr)) (es : List Expr), Ct c call sc fnB X → chP c sc ks l keys es = true → ∃ trs, PV X B call keys es ks l trs
def OkO (c : Ck) (call : Nat → List Sl → CR) (l : IO) : Prop := ∀ (sc : Scope) (fnB : Str → Bool) (X : Cx) (B : Bs) (e : Option Expr), Ct c call sc fnB X → chO c sc l e = true → PO X e (RdO X.K B (evO call l))
def OkT (c : Ck) (call : Nat → List Sl → CR) (l : IO) : Prop := ∀ (sc : Scope) (fnB : Str → Bool) (X : Cx) (B : Bs) (es : List Expr), Ct c call sc fnB X → chT c sc l es = true → PTs X es (RdC X.K B (evT call l))
def OkI (c : Ck) (call : Nat → List Sl → CR) (l : II) : Prop := ∀ (sc : Scope) (fnB : Str → Bool) (X : Cx) (B : Bs) (tg e : Expr), Ct c call sc fnB X → chI c sc l tg e = true → PI X tg e (RdI X.K B (evI call l))
theorem rd_const {X : Cx} {B : Bs} {v : V} {d : D} {ex : Expr} (h : PE X ex (tC v)) (hr : ∀ F, Rp X.K F v d) : PE X ex (RdE X.K B fun r => .ok (.d d) r) :=
  PE.imp h fun σ H Q ⟨F, r, s, t, r', e, k⟩ => by
    cases e
    exact k v F H (Post.refl s) (hr F)
section
variable {c : Ck} {call : Nat → List Sl → CR}
theorem ok_cst (d : Const) : OkE c call (.cst d) := fun sc fnB X B ex ct h => by
  unfold chE at h
  split at h
  · rename_i d' k p
    have e := cstEq_ok h
    subst e
    cases d with
    | none => exact tri (rd_const pe_non fun F => .non) rfl
    | bool b => exact tri (rd_const pe_bl fun F => .bl b) rfl
    | int i => exact tri (rd_const pe_int fun F => .int i) rfl
    | str s => exact tri (rd_const pe_str fun F => .str s) rfl
    | _ => simp [cstEq] at h
  · cases h
theorem ok_var (i : Nat) : OkE c call (.var i) := fun sc fnB X B ex ct h => by
  unfold chE at h
  split at h
  · rename_i x p
    simp only [Bool.and_eq_true] at h
    obtain ⟨h1, h2, h3⟩ := h
    obtain ⟨d1, d2⟩ := dbgB_ok h3
    exact tri (rd_var (ct.N ▸ slotB_ok h1) (ct.sc ▸ visB_ok h2) d1 d2 call) rfl
  · cases h
theorem ok_glob (y : Str) (d : D) : OkE c call (.glob y d) := fun sc fnB X B ex ct h => by
  unfold chE at h
  split at h
  · rename_i x p
    simp only [Bool.and_eq_true] at h
    obtain ⟨h1, h2, h3, h4⟩ := h
    have e := eq_of_beq h1
    subst e
    obtain ⟨u, v, g1, g2, g3⟩ := ct.gl _ _ (glIs_ok h4)
    exact tri (rd_const (pe_glob (glB_ok ct.sc h2) g1 g2 (dbgB_ok h3).1) fun F => g3.mono fun a o q => by cases q) rfl
  · cases h
theorem ok_bin (o : Bo) {a b : IE} (ha : OkE c call a) (hb : OkE c call b) : OkE c call (.bin o a b) := fun sc fnB X B ex ct h => by
  unfold chE at h
  split at h
  · rename_i l op r p
    simp only [Bool.and_eq_true, decide_eq_true_eq] at h
    obtain ⟨h1, h2, h3⟩ := h
    subst h1
    exact tri (rd_bin o (ha sc fnB X B l ct h2).1 (hb sc fnB X B r ct h3).1) rfl
  · cases h
theorem ok_neg {a : IE} (ha : OkE c call a) : OkE c call (.neg a) := fun sc fnB X B ex ct h => by
  unfold chE at h
  split at h
  · rename_i x p
    exact tri (rd_neg (ha sc fnB X B x ct h).1) rfl
  · cases h
theorem ok_cmp (o : Co) {a b : IE} (ha : OkE c call a) (hb : OkE c call b) : OkE c call (.cmp o a b) := fun sc fnB X B ex ct h => by
  unfold chE at h
  split at h
  · rename_i l op r p
    simp only [Bool.and_eq_true, decide_eq_true_eq, Bool.not_eq_true'] at h
    obtain ⟨h1, h2, h3, h4⟩ := h
    subst h1
    exact ⟨rd_cmp ct.un o h2 (ha sc fnB X B l ct h3).1 (hb sc fnB X B r ct h4).1, rd_cmpT ct.un o h2 (ha sc fnB X B l ct h3).1 (hb sc fnB X B r ct h4).1, fun ⟨_, _, _, e⟩ => by cases e⟩
  · cases h
theorem ok_chn (o p : Co) {a b d : IE} (ha : OkE c call a) (hb : OkE c call b) (hd : OkE c call d) : OkE c call (.chn o p a b d) := fun sc fnB X B ex ct h => by
  unfold chE at h
  split at h
  · rename_i l op op' r q pos
    simp only [Bool.and_eq_true, decide_eq_true_eq, Bool.not_eq_true'] at h
    obtain ⟨h1, h2, h3, h4, h5, h6⟩ := h
    subst h1 h2
    exact ⟨rd_chn ct.un o p h3 (ha sc fnB X B l ct h4).1 (hb sc fnB X B r ct h5).1 (hd sc fnB X B q ct h6).1, rd_chnT ct.un o p h3 (ha sc fnB X B l ct h4).1 (hb sc fnB X B r ct h5).1 (hd sc fnB X B q ct h6).1, fun ⟨_, _, _, e⟩ => by cases e⟩
  · cases h
theorem not_tst {X : Cx} {B : Bs} {a : Expr} {pos : Pos} {f : Env → Res TV} (h : PE X a (RdE X.K B f)) : PE X (.UnaryOp .Not a pos) (RdE X.K B fun r => ((tst f).2 r).bind fun t r1 => .ok (.d (.bool (!t))) r1) := rd_not h
theorem ok_not {a : IE} (ha : OkE c call a) : OkE c call (.not a) := fun sc fnB X B ex ct h => by
  unfold chE at h
  split at h
  · rename_i x p
    obtain ⟨h1, h2, _⟩ := ha sc fnB X B x ct h
    exact ⟨rd_not h1, rd_notT h2, fun ⟨_, _, _, e⟩ => by cases e⟩
  · cases h
theorem ok_and {a b : IE} (ha : OkE c call a) (hb : OkE c call b) : OkE c call (.and a b) := fun sc fnB X B ex ct h => by
  unfold chE at h
  split at h
  · rename_i e1 rest pos
    rw [Bool.and_eq_true] at h
    obtain ⟨h1, h2⟩ := h
    obtain ⟨a1, a2, _⟩ := ha sc fnB X B e1 ct h1
    split at h2
    · cases h2
    · rename_i e2
      obtain ⟨b1, b2, _⟩ := hb sc fnB X B e2 ct h2
      have w := rd_andC a2 (pos := pos) (pw_and1 b2)
      exact ⟨rd_andE a1 (rd_one b1), w.pt, fun _ => w⟩
    · rename_i e2 e3 r
      obtain ⟨b1, b2, b3⟩ := hb sc fnB X B _ ct h2
      have w := rd_andC a2 (b3 ⟨_, _, _, rfl⟩)
      exact ⟨rd_andE a1 b1, w.pt, fun _ => w⟩
  · cases h
theorem ok_or {a b : IE} (ha : OkE c call a) (hb : OkE c call b) : OkE c call (.or a b) := fun sc fnB X B ex ct h => by
  unfold chE at h
  split at h
  · rename_i e1 rest pos
    rw [Bool.and_eq_true] at h
    obtain ⟨h1, h2⟩ := h
    obtain ⟨a1, a2, _⟩ := ha sc fnB X B e1 ct h1
    split at h2
    · cases h2
    · rename_i e2
      obtain ⟨b1, b2, _⟩ := hb sc fnB X B e2 ct h2
      have w := rd_orC a2 (pos := pos) (pw_or1 b2)
      exact ⟨rd_orE a1 (rd_one b1), w.pt, fun _ => w⟩
    · rename_i e2 e3 r
      obtain ⟨b1, b2, b3⟩ := hb sc fnB X B _ ct h2
      have w := rd_orC a2 (b3 ⟨_, _, _, rfl⟩)
      exact ⟨rd_orE a1 b1, w.pt, fun _ => w⟩
  · cases h
theorem ok_ife {t a b : IE} (ht : OkE c call t) (ha : OkE c call a) (hb : OkE c call b) : OkE c call (.ife t a b) := fun sc fnB X B ex ct h => by
  unfold chE at h
  split at h
  · rename_i t' a' b' pos
    simp only [Bool.and_eq_true] at h
    obtain ⟨h1, h2, h3⟩ := h
    obtain ⟨_, t2, _⟩ := ht sc fnB X B t' ct h1
    obtain ⟨a1, a2, _⟩ := ha sc fnB X B a' ct h2
    obtain ⟨b1, b2, _⟩ := hb sc fnB X B b' ct h3
    exact ⟨rd_ifeE t2 a1 b1, rd_ifeC t2 a2 b2, fun ⟨_, _, _, e⟩ => by cases e⟩
  · cases h
theorem ok_tup {l : IA} (hl : OkA c call l) : OkE c call (.tup l) := fun sc fnB X B ex ct h => by
  unfold chE at h
  split at h
  · exact tri (rd_tup (hl sc fnB X B _ ct h)) rfl
  · cases h
theorem ok_lst {l : IA} (hl : OkA c call l) : OkE c call (.lst l) := fun sc fnB X B ex ct h => by
  unfold chE at h
  split at h
  · exact tri (rd_lst (hl sc fnB X B _ ct h)) rfl
  · cases h
theorem ok_idx {a b : IE} (ha : OkE c call a) (hb : OkE c call b) : OkE c call (.idx a b) := fun sc fnB X B ex ct h => by
  unfold chE at h
  split at h
  · rename_i x y p
    simp only [Bool.and_eq_true] at h
    obtain ⟨h1, h2, h3⟩ := h
    exact tri (rd_idx (plainIx_ok h1) (ha sc fnB X B x ct h2).1 (hb sc fnB X B y ct h3).1) rfl
  · cases h
theorem ok_slc {a : IE} {lo hi : IO} (ha : OkE c call a) (hl : OkO c call lo) (hh : OkO c call hi) : OkE c call (.slc a lo hi) := fun sc fnB X B ex ct h => by
  unfold chE at h
  split at h
  · rename_i x l hh' p2 p
    simp only [Bool.and_eq_true] at h
    obtain ⟨h1, h2, h3⟩ := h
    exact tri (rd_slc (ha sc fnB X B x ct h1).1 (hl sc fnB X B _ ct h2) (hh sc fnB X B _ ct h3)) rfl
  · cases h
theorem ok_isi {a : IE} (t : Ty) (ha : OkE c call a) : OkE c call (.isi a t) := fun sc fnB X B ex ct h => by
  unfold chE at h
  split at h
  · rename_i f p1 x y p2 p3
    simp only [Bool.and_eq_true] at h
    obtain ⟨h1, h2, h3, h4⟩ := h
    obtain ⟨rfl, m1, g1⟩ := freeB_ok ct h1
    obtain ⟨rfl, m2, g2⟩ := freeB_ok ct h2
    exact tri (rd_isi g1 m1 g2 m2 h3 (ha sc fnB X B x ct h4).1) rfl
  · cases h
theorem ok_call {l : IA} (f : Nat) (y : Str) (hl : OkR c call l) : OkE c call (.call f y l) := fun sc fnB X B ex ct h => by
  unfold chE at h
  split at h
  · rename_i x p1 es p2
    simp only [Bool.and_eq_true] at h
    obtain ⟨h1, h2, h3, h4, h5⟩ := h
    split at h1
    · rename_i z hz
      have e := eq_of_beq h1
      subst e
      obtain ⟨k, ad, fd, ps, F, hr, hm, hk, hb⟩ := ct.fn f _ hz
      obtain ⟨r1, r2⟩ := hl sc fnB X B es ct h5
      exact tri (rd_call F hr (glB_ok ct.sc h2) hm hk hb (fun _ _ _ _ _ _ _ q => q.elim) h4 (dbgB_ok h3).1 r1 r2 call f rfl) rfl
    · cases h1
  · cases h
theorem ok_bl1 (b : B1) {a : IE} (ha : OkE c call a) : OkE c call (.bl1 b a) := fun sc fnB X B ex ct h => by
  unfold chE at h
  split at h
  · rename_i f p1 x p2
    simp only [Bool.and_eq_true] at h
    obtain ⟨h1, h2, h3⟩ := h
    obtain ⟨rfl, m1, g1⟩ := freeB_ok ct h1
    exact tri (rd_bl1 ct.calm b g1 m1 h2 (ha sc fnB X B x ct h3).1) rfl
  · cases h
theorem ok_un (u : U1) {a : IE} (ha : OkE c call a) : OkE c call (.un u a) := fun sc fnB X B ex ct h => by
  unfold chE at h
  split at h
  · split at h
    · simp only [Bool.and_eq_true] at h
      obtain ⟨h1, h2, h3⟩ := h
      obtain ⟨rfl, m1, g1⟩ := freeB_ok ct h1
      exact tri (rd_srt ct.un g1 m1 h2 (ha sc fnB X B _ ct h3).1) rfl
    · cases h
  · split at h
    · simp only [Bool.and_eq_true] at h
      obtain ⟨h1, h2, h3, h4⟩ := h
      obtain ⟨rfl, m1, g1⟩ := freeB_ok ct h1
      obtain ⟨rfl, m2, g2⟩ := freeB_ok ct h2
      exact tri (rd_sst ct.calm g1 m1 g2 m2 h3 (ha sc fnB X B _ ct h4).1) rfl
    · cases h
  · split at h
    · simp only [Bool.and_eq_true] at h
      obtain ⟨h1, h2, h3, h4, h5⟩ := h
      obtain ⟨rfl, m1, g1⟩ := freeB_ok ct h1
      obtain rfl := eq_of_beq h2
      exact tri (rd_lvs ct.calm g1 m1 h3 h4 (ha sc fnB X B _ ct h5).1) rfl
    · cases h
  · split at h
    · simp only [Bool.and_eq_true] at h
      obtain ⟨h1, h2, h3, h4⟩ := h
      obtain ⟨rfl, m1, g1⟩ := freeB_ok ct h1
      obtain ⟨rfl, m2, g2⟩ := freeB_ok ct h2
      exact tri (rd_lrg ct.calm g1 m1 g2 m2 h3 (ha sc fnB X B _ ct h4).1) rfl
    · cases h
  · cases h
theorem ok_bl2 (b : B2) {a d : IE} (ha : OkE c call a) (hd : OkE c call d) : OkE c call (.bl2 b a d) := fun sc fnB X B ex ct h => by
  unfold chE at h
  split at h
  · rename_i f p1 x y p2
    simp only [Bool.and_eq_true] at h
    obtain ⟨h1, h2, h3, h4, h5⟩ := h
    obtain ⟨rfl, m1, g1⟩ := freeB_ok ct h1
    exact tri (rd_bl2 ct.calm b g1 m1 h2 h3 (ha sc fnB X B x ct h4).1 (hd sc fnB X B y ct h5).1) rfl
  · cases h
theorem ok_dsp (ks : List Const) {l : IA} (hl : OkP c call l) : OkE c call (.dsp ks l) := fun sc fnB X B ex ct h => by
  unfold chE at h
  split at h
  · rename_i keys vs p
    obtain ⟨trs, pv⟩ := hl sc fnB X B ks keys vs ct h
    exact tri (rd_dsp pv) rfl
  · cases h
theorem un1 {A : Around} (h : A.units + 65 < cLine) : A.units + 1 < cLine := by omega
theorem ok_mg1 {o k : IE} (ho : OkE c call o) (hk : OkE c call k) : OkE c call (.mg1 o k) := fun sc fnB X B ex ct h => by
  unfold chE at h
  split at h
  · rename_i x m ap y cp
    simp only [Bool.and_eq_true] at h
    obtain ⟨h1, h2, h3, h4, h5, h6⟩ := h
    have e := eq_of_beq h1
    subst e
    exact tri (rd_mg1 (un1 ct.un) h2 h3 h4 (ho sc fnB X B x ct h5).1 (hk sc fnB X B y ct h6).1) rfl
  · cases h
theorem ok_mg2 {o k d : IE} (ho : OkE c call o) (hk : OkE c call k) (hd : OkE c call d) : OkE c call (.mg2 o k d) := fun sc fnB X B ex ct h => by
  unfold chE at h
  split at h
  · rename_i x m ap y z cp
    simp only [Bool.and_eq_true] at h
    obtain ⟨h1, h2, h3, h4, h5, h6, h7, h8⟩ := h
    have e := eq_of_beq h1
    subst e
    exact tri (rd_mg2 (un1 ct.un) h2 h3 h4 h5 (ho sc fnB X B x ct h6).1 (hk sc fnB X B y ct h7).1 (hd sc fnB X B z ct h8).1) rfl
  · cases h
theorem un0 {A : Around} (h : A.units + 65 < cLine) : A.units < cLine := by omega
theorem ok_emp (t : Bool) : OkE c call (.emp t) := fun sc fnB X B ex ct h => by
  unfold chE at h
  split at h
  · exact tri (rd_emp t) rfl
  · cases h
theorem ok_din (n : Bool) {k d : IE} (hk : OkE c call k) (hd : OkE c call d) : OkE c call (.din n k d) := fun sc fnB X B ex ct h => by
  unfold chE at h
  split at h
  · rename_i x op y p
    simp only [Bool.and_eq_true, decide_eq_true_eq, Bool.not_eq_true'] at h
    obtain ⟨h1, h2, h3, h4⟩ := h
    cases n
    · have h1' : op = .In := h1
      subst h1'
      obtain ⟨q1, q2⟩ := rd_din (pos := p) (un1 ct.un) h2 (hk sc fnB X B x ct h3).1 (hd sc fnB X B y ct h4).1
      exact ⟨q1, q2, fun ⟨_, _, _, e⟩ => by cases e⟩
    · have h1' : op = .NotIn := h1
      subst h1'
      obtain ⟨q1, q2⟩ := rd_dnin (pos := p) (un1 ct.un) h2 (hk sc fnB X B x ct h3).1 (hd sc fnB X B y ct h4).1
      exact ⟨q1, q2, fun ⟨_, _, _, e⟩ => by cases e⟩
  · cases h
theorem ok_dix {d k : IE} (hd : OkE c call d) (hk : OkE c call k) : OkE c call (.dix d k) := fun sc fnB X B ex ct h => by
  unfold chE at h
  split at h
  · rename_i x y p
    simp only [Bool.and_eq_true] at h
    obtain ⟨h1, h2, h3⟩ := h
    exact tri (rd_dix (un1 ct.un) (plainIx_ok h1) (hd sc fnB X B x ct h2).1 (hk sc fnB X B y ct h3).1) rfl
  · cases h
theorem ok_sdk {d k v : IE} (hd : OkE c call d) (hk : OkE c call k) (hv : OkE c call v) : OkE c call (.sdk d k v) := fun sc fnB X B ex ct h => by
  unfold chE at h
  split at h
  · rename_i y x z p
    simp only [Bool.and_eq_true] at h
    obtain ⟨h1, h2, h3⟩ := h
    exact tri (rd_sdk (hd sc fnB X B x ct h1).1 (hk sc fnB X B y ct h2).1 (hv sc fnB X B z ct h3).1) rfl
  · cases h
theorem ok_tin (n : Bool) {l : IA} {d : IE} (hl : OkA c call l) (hd : OkE c call d) : OkE c call (.tin n l d) := fun sc fnB X B ex ct h => by
  unfold chE at h
  split at h
  · rename_i es k1 p1 y p
    simp only [Bool.and_eq_true, Bool.not_eq_true'] at h
    obtain ⟨h1, h2, h3, h4⟩ := h
    subst h1
    obtain ⟨q1, q2⟩ := rd_tin (pos := p) (un1 ct.un) h2 (hl sc fnB X B es ct h3) (hd sc fnB X B y ct h4).1
    exact ⟨q1, q2, fun ⟨_, _, _, e⟩ => by cases e⟩
  · cases h
theorem ok_tix {d : IE} {l : IA} (hd : OkE c call d) (hl : OkA c call l) : OkE c call (.tix d l) := fun sc fnB X B ex ct h => by
  unfold chE at h
  split at h
  · rename_i x es k1 p1 p
    simp only [Bool.and_eq_true] at h
    obtain ⟨h1, h2⟩ := h
    exact tri (rd_tix (un1 ct.un) (plainIx_ok rfl) (hd sc fnB X B x ct h1).1 (hl sc fnB X B es ct h2)) rfl
  · cases h
theorem ok_tg1 {d : IE} {l : IA} (hd : OkE c call d) (hl : OkA c call l) : OkE c call (.tg1 d l) := fun sc fnB X B ex ct h => by
  unfold chE at h
  split at h
  · rename_i x m ap es k1 p1 cp
    simp only [Bool.and_eq_true] at h
    obtain ⟨h1, h2, h3, h4, h5⟩ := h
    have e := eq_of_beq h1
    subst e
    exact tri (rd_tg1 (un1 ct.un) h2 h3 (hd sc fnB X B x ct h4).1 (hl sc fnB X B es ct h5)) rfl
  · cases h
theorem ok_tg2 {d v : IE} {l : IA} (hd : OkE c call d) (hl : OkA c call l) (hv : OkE c call v) : OkE c call (.tg2 d l v) := fun sc fnB X B ex ct h => by
  unfold chE at h
  split at h
  · rename_i x m ap es k1 p1 z cp
    simp only [Bool.and_eq_true] at h
    obtain ⟨h1, h2, h3, h4, h5, h6, h7⟩ := h
    have e := eq_of_beq h1
    subst e
    exact tri (rd_tg2 (un1 ct.un) h2 h3 h4 (hd sc fnB X B x ct h5).1 (hl sc fnB X B es ct h6) (hv sc fnB X B z ct h7).1) rfl
  · cases h
theorem ok_sdt {d v : IE} {l : IA} (hd : OkE c call d) (hl : OkA c call l) (hv : OkE c call v) : OkE c call (.sdt d l v) := fun sc fnB X B ex ct h => by
  unfold chE at h
  split at h
  · rename_i es k1 p1 x z p
    simp only [Bool.and_eq_true] at h
    obtain ⟨h1, h2, h3⟩ := h
    exact tri (rd_sdt (un0 ct.un) (hd sc fnB X B x ct h1).1 (hl sc fnB X B es ct h2) (hv sc fnB X B z ct h3).1) rfl
  · cases h
end
end Ev

end
section
set_option linter.all false
set_option maxHeartbeats 4000000
namespace Ev
open PySem PySem.Spec PyProof.Rows L2
section
variable {c : Ck} {call : Nat → List Sl → CR}
/-- the parts of a comprehension of one clause -/
structure Lc1 (X : Cx) (B : Bs) (tg iter elt : Expr) (ifs : List Expr) (scope : Scope) (own : List (Str × Nat)) (t : IT) (gi : Env → Res (List D)) (gt : Env → Res Bool) (ge : Env → Res TV) : Prop where
  calm : X.calm = true
  nd : X.N.Nodup
  hi : PI X tg iter (RdI X.K B gi)
  ok : BlkOk X.N X.env.scope scope own
  hg : ∀ (s : Shared) (H : Hp) (C : Addr) (cl : List (Str × Addr)) (fp : List Addr), PG (X.blk s H scope (compEnvC scope cl C X.env) fp) tg (RdG X.K B t)
  ht : ∀ (s : Shared) (H : Hp) (C : Addr) (cl : List (Str × Addr)) (fp : List Addr), PTs (X.blk s H scope (compEnvC scope cl C X.env) fp) ifs (RdC X.K B gt)
  he : ∀ (s : Shared) (H : Hp) (C : Addr) (cl : List (Str × Addr)) (fp : List Addr), PE (X.blk s H scope (compEnvC scope cl C X.env) fp) elt (RdE X.K B ge)
  hs : ∀ x, foldedSetIterable iter X.env x = pure x
  hsl : ∀ i ∈ slotsT t, i ∈ own.map (·.2)
abbrev cm1G (own : List (Str × Nat)) (t : IT) (gi : Env → Res (List D)) (gt : Env → Res Bool) (ge : Env → Res TV) : Env → Res TV := fun r => (gi r).bind fun xs r1 =>
      match compL (fun x r2 => (asn t (.d x) (wipeE (own.map (·.2)) r2)).bind fun _ r3 =>
          (gt r3).bind fun ok r4 => match ok with
            | true => (ge r4).bind fun y r5 => (solidR r5 y).bind fun v r6 => .ok [v] r6
            | false => .ok [] r4) xs r1 with
      | .ok ys r2 => if ys.length ≤ SZ then .ok (.f (.list ys)) (backE r1 (own.map (·.2)) r2) else .stuck
      | _ => .stuck
structure Lc2 (X : Cx) (B : Bs) (tg iter elt tg2 iter2 : Expr) (ifs ifs2 : List Expr) (scope : Scope) (own : List (Str × Nat)) (own2 : List Nat) (t t2 : IT) (gi gi2 : Env → Res (List D)) (gt gt2 : Env → Res Bool) (ge : Env → Res TV) : Prop where
  one : Lc1 X B tg iter elt ifs scope own t gi gt ge
  hi2 : ∀ (s : Shared) (H : Hp) (C : Addr) (cl : List (Str × Addr)) (fp : List Addr), PI (X.blk s H scope (compEnvC scope cl C X.env) fp) tg2 iter2 (RdI X.K B gi2)
  hg2 : ∀ (s : Shared) (H : Hp) (C : Addr) (cl : List (Str × Addr)) (fp : List Addr), PG (X.blk s H scope (compEnvC scope cl C X.env) fp) tg2 (RdG X.K B t2)
  ht2 : ∀ (s : Shared) (H : Hp) (C : Addr) (cl : List (Str × Addr)) (fp : List Addr), PTs (X.blk s H scope (compEnvC scope cl C X.env) fp) ifs2 (RdC X.K B gt2)
  hs2 : ∀ env x, foldedSetIterable iter2 env x = pure x
  hsl2 : ∀ i ∈ slotsT t2, i ∈ own2
  hv : ∀ i ∈ own2, i ∈ own.map (·.2)
abbrev cm2G (own : List (Str × Nat)) (own2 : List Nat) (t t2 : IT) (gi gi2 : Env → Res (List D)) (gt gt2 : Env → Res Bool) (ge : Env → Res TV) : Env → Res TV := fun r => (gi r).bind fun xs r1 =>
      match compL (fun x r2 => (asn t (.d x) (wipeE (own.map (·.2)) r2)).bind fun _ r3 =>
          (gt r3).bind fun ok r4 => match ok with
            | true => (gi2 r4).bind fun zs r5 =>
              compL (fun z r6 => (asn t2 (.d z) (wipeE own2 r6)).bind fun _ r7 =>
                (gt2 r7).bind fun ok2 r8 => match ok2 with
                  | true => (ge r8).bind fun y r9 => (solidR r9 y).bind fun v r10 => .ok [v] r10
                  | false => .ok [] r8) zs r5
            | false => .ok [] r4) xs r1 with
      | .ok ys r2 => if ys.length ≤ SZ then .ok (.f (.list ys)) (backE r1 (own.map (·.2)) r2) else .stuck
      | _ => .stuck
section
variable {X : Cx} {B : Bs} {tg iter elt tg2 iter2 : Expr} {ifs ifs2 : List Expr} {scope : Scope} {own : List (Str × Nat)} {own2 : List Nat} {t t2 : IT} {gi gi2 : Env → Res (List D)} {gt gt2 : Env → Res Bool} {ge : Env → Res TV}
theorem Lc1.imp (h : Lc1 X B tg iter elt ifs scope own t gi gt ge) : ∀ σ H Q, RdE X.K B (cm1G own t gi gt ge) σ H Q → tLc (RdI X.K B gi) (RdG X.K B t) (RdC X.K B gt) (RdE X.K B ge) (own.map (·.2)) σ H Q :=
  rd_cm1 h.calm h.nd h.hi h.ok h.hg h.ht h.he h.hs h.hsl
theorem Lc1.pe {pos : Pos} (h : Lc1 X B tg iter elt ifs scope own t gi gt ge) : PE X (.ListComp elt [⟨tg, iter, ifs, 0⟩] scope pos) (RdE X.K B (cm1G own t gi gt ge)) :=
  PE.imp (pe_lc h.calm h.nd h.hi h.ok h.hg h.ht h.he h.hs) h.imp
theorem Lc2.imp (h : Lc2 X B tg iter elt tg2 iter2 ifs ifs2 scope own own2 t t2 gi gi2 gt gt2 ge) : ∀ σ H Q, RdE X.K B (cm2G own own2 t t2 gi gi2 gt gt2 ge) σ H Q → tLc2 (RdI X.K B gi) (RdG X.K B t) (RdC X.K B gt) (RdI X.K B gi2) (RdG X.K B t2) (RdC X.K B gt2) (RdE X.K B ge) (own.map (·.2)) own2 σ H Q :=
  rd_cm2 h.one.hsl h.hsl2 h.hv
theorem Lc2.pe {pos : Pos} (h : Lc2 X B tg iter elt tg2 iter2 ifs ifs2 scope own own2 t t2 gi gi2 gt gt2 ge) : PE X (.ListComp elt [⟨tg, iter, ifs, 0⟩, ⟨tg2, iter2, ifs2, 0⟩] scope pos) (RdE X.K B (cm2G own own2 t t2 gi gi2 gt gt2 ge)) :=
  PE.imp (pe_lc2 h.one.calm h.one.nd h.one.hi h.one.ok h.hv h.one.hg h.one.ht h.hi2 h.hg2 h.ht2 h.one.he h.one.hs h.hs2) h.imp
end
theorem lc1_of {elt : IE} {t : IT} {it : II} {cn : IO} {own : List (Str × Nat)} (hE : OkE c call elt) (hI : OkI c call it) (hT : OkT c call cn) {sc : Scope} {fnB : Str → Bool} {X : Cx} (B : Bs) {tg iter elt' : Expr} {ifs : List Expr} {scope : Scope} (ct : Ct c call sc fnB X)
    (h2 : notSet iter = true) (h3 : chI c sc it tg iter = true) (h4 : blkB c.N sc scope own = true) (h5 : chG c (cfn scope) (relS scope sc) t tg = true) (h6 : chT c (relS scope sc) cn ifs = true) (h7 : chE c (relS scope sc) elt elt' = true)
    (h8 : ((slotsT t).all fun i => (own.map (·.2)).contains i) = true) : Lc1 X B tg iter elt' ifs scope own t (evI call it) (evT call cn) (ev call elt).1 where
  calm := ct.calm
  nd := ct.N ▸ ct.nd
  hi := hI sc fnB X B tg iter ct h3
  ok := by
    have e := ct.sc
    have e2 := ct.N
    rw [e, e2]
    exact blkB_ok h4
  hg := fun s H C cl fp => okG (ct.blk s H scope cl C fp) t tg h5
  ht := fun s H C cl fp => hT _ _ _ B ifs (ct.blk s H scope cl C fp) h6
  he := fun s H C cl fp => (hE _ _ _ B elt' (ct.blk s H scope cl C fp) h7).1
  hs := folded_ok h2
  hsl := sub_ok h8
theorem ok_cm1 {elt : IE} {it : II} {cn : IO} (own : List (Str × Nat)) (t : IT) (hE : OkE c call elt) (hI : OkI c call it) (hT : OkT c call cn) : OkE c call (.cm1 own elt t it cn) := fun sc fnB X B ex ct h => by
  unfold chE at h
  split at h
  · rename_i elt' g scope p
    obtain ⟨tg, iter, ifs, asy⟩ := g
    simp only [Bool.and_eq_true] at h
    obtain ⟨h1, h2, h3, h4, h5, h6, h7, h8⟩ := h
    have e : asy = 0 := eq_of_beq h1
    subst e
    exact tri (lc1_of hE hI hT B ct h2 h3 h4 h5 h6 h7 h8).pe rfl
  · cases h
theorem ok_cmo {elt : IE} {cn : IO} (own : List (Str × Nat)) (t : IT) (i : Nat) (hE : OkE c call elt) (hT : OkT c call cn) : OkE c call (.cmo own elt t i cn) := fun sc fnB X B ex ct h => by
  unfold chE at h
  split at h
  · rename_i elt' g scope p
    obtain ⟨tg, iter, ifs, asy⟩ := g
    simp only [Bool.and_eq_true] at h
    obtain ⟨h1, h2, h3, h4, h5, h6, h7, h8⟩ := h
    have e : asy = 0 := eq_of_beq h1
    subst e
    unfold nameB at h3
    split at h3
    · rename_i x px
      simp only [Bool.and_eq_true] at h3
      obtain ⟨n1, n2, n3⟩ := h3
      obtain ⟨d1, d2⟩ := dbgB_ok n3
      have hv := rd_var (X := X) (B := B) (pos := px) (ct.N ▸ slotB_ok n1) (ct.sc ▸ visB_ok n2) d1 d2 call
      have ok : BlkOk X.N X.env.scope scope own := by
        have e := ct.sc
        have e2 := ct.N
        rw [e, e2]
        exact blkB_ok h4
      refine tri (PE.imp (pe_lc ct.calm (ct.N ▸ ct.nd) (pi_list hv) ok (fun s H C cl fp => okG (ct.blk s H scope cl C fp) t tg h5) (fun s H C cl fp => hT _ _ _ B ifs (ct.blk s H scope cl C fp) h6)
        (fun s H C cl fp => (hE _ _ _ B elt' (ct.blk s H scope cl C fp) h7).1) (folded_ok h2)) (rd_cmo call (sub_ok h8))) rfl
    · cases h3
  · cases h
theorem ok_cm2 {elt : IE} {it it2 : II} {cn cn2 : IO} (own : List (Str × Nat)) (own2 : List Nat) (t t2 : IT) (hE : OkE c call elt) (hI : OkI c call it) (hT : OkT c call cn) (hI2 : OkI c call it2) (hT2 : OkT c call cn2) : OkE c call (.cm2 own own2 elt t it cn t2 it2 cn2) := fun sc fnB X B ex ct h => by
  unfold chE at h
  split at h
  · rename_i elt' g g2 scope p
    obtain ⟨tg, iter, ifs, asy⟩ := g
    obtain ⟨tg2, iter2, ifs2, asy2⟩ := g2
    simp only [Bool.and_eq_true] at h
    obtain ⟨h1, h2, h3, h4, h5, h6, h7, h8, h9, h10, h11, h12, h13, h14, h15⟩ := h
    have e : asy = 0 := eq_of_beq h1
    have e2 : asy2 = 0 := eq_of_beq h9
    subst e e2
    have l2 : Lc2 X B tg iter elt' tg2 iter2 ifs ifs2 scope own own2 t t2 (evI call it) (evI call it2) (evT call cn) (evT call cn2) (ev call elt).1 :=
      ⟨lc1_of hE hI hT B ct h2 h3 h4 h5 h6 h7 h8, fun s H C cl fp => hI2 _ _ _ B tg2 iter2 (ct.blk s H scope cl C fp) h11, fun s H C cl fp => okG (ct.blk s H scope cl C fp) t2 tg2 h12, fun s H C cl fp => hT2 _ _ _ B ifs2 (ct.blk s H scope cl C fp) h13,
        fun env => folded_ok h10, sub_ok h14, sub_ok h15⟩
    exact tri l2.pe rfl
  · cases h
theorem okA_nil : OkA c call .nil := fun sc fnB X B es ct h => by
  unfold chA at h
  split at h
  · exact rd_nil
  · cases h
theorem okA_cons {a : IE} {l : IA} (ha : OkE c call a) (hl : OkA c call l) : OkA c call (.cons a l) := fun sc fnB X B es ct h => by
  unfold chA at h
  split at h
  · rename_i e r
    simp only [Bool.and_eq_true] at h
    obtain ⟨h1, h2, h3⟩ := h
    exact rd_cons (ha sc fnB X B e ct h2).1 (hl sc fnB X B r ct h3) (star_cons h1)
  · cases h
theorem okA_lend (i : Nat) (l : IA) : OkA c call (.lend i l) := fun sc fnB X B es ct h => by
  simp [chA] at h
theorem okR_nil : OkR c call .nil := fun sc fnB X B es ct h => by
  unfold chR at h
  split at h
  · exact ⟨rr_nil, fun _ => by funext r; rfl⟩
  · cases h
theorem okR_cons {a : IE} {l : IA} (ha : OkE c call a) (hl : OkR c call l) : OkR c call (.cons a l) := fun sc fnB X B es ct h => by
  unfold chR at h
  split at h
  · rename_i e r
    simp only [Bool.and_eq_true] at h
    obtain ⟨h1, h2, h3⟩ := h
    exact ⟨rr_cons (ha sc fnB X B e ct h2).1 (hl sc fnB X B r ct h3).1 (star_cons h1), fun z => by cases z⟩
  · cases h
theorem okR_lend (i : Nat) {l : IA} (hl : OkR c call l) : OkR c call (.lend i l) := fun sc fnB X B es ct h => by
  unfold chR at h
  split at h
  · rename_i x p r
    simp only [Bool.and_eq_true] at h
    obtain ⟨h1, h2, h3, h4⟩ := h
    obtain ⟨d1, d2⟩ := dbgB_ok h3
    exact ⟨rr_lend (ct.N ▸ slotB_ok h1) (ct.sc ▸ visB_ok h2) d1 d2 (hl sc fnB X B r ct h4).1, fun z => by cases z⟩
  · cases h
theorem okP_nil : OkP c call .nil := fun sc fnB X B ks keys es ct h => by
  cases ks with
  | nil =>
    cases keys with
    | nil =>
      cases es with
      | nil => exact ⟨_, .nil⟩
      | cons => simp [chP] at h
    | cons => cases es <;> simp [chP] at h
  | cons => simp [chP] at h
theorem okP_cons {a : IE} {l : IA} (ha : OkE c call a) (hl : OkP c call l) : OkP c call (.cons a l) := fun sc fnB X B ks keys es ct h => by
  cases ks with
  | nil => cases keys <;> cases es <;> simp [chP] at h
  | cons k ks =>
    cases keys with
    | nil => simp [chP] at h
    | cons ko r =>
      cases ko with
      | none => simp [chP] at h
      | some ke =>
        cases es with
        | nil => simp [chP] at h
        | cons e es =>
          cases ke with
          | Constant k' j p =>
            simp only [chP, Bool.and_eq_true] at h
            obtain ⟨h1, h2, h3, h4⟩ := h
            have e' := cstEq_ok h2
            subst e'
            obtain ⟨trs, pv⟩ := hl sc fnB X B ks r es ct h4
            refine ⟨_, .cons ?_ (ha sc fnB X B e ct h3).1 pv⟩
            cases k with
            | int i => exact pe_int
            | str s => exact pe_str
            | _ => simp [keyCB] at h1
          | UnaryOp op ke2 p =>
            cases op with
            | USub =>
              cases ke2 with
              | Constant k' j2 p2 =>
                cases k' with
                | int j =>
                  cases k with
                  | int i =>
                    simp only [chP, Bool.and_eq_true, decide_eq_true_eq] at h
                    obtain ⟨h1, h3, h4⟩ := h
                    subst h1
                    obtain ⟨trs, pv⟩ := hl sc fnB X B ks r es ct h4
                    exact ⟨_, .cons (PE.imp (pe_un un_neg pe_int) fun σ H Q q => ⟨j, rfl, q⟩) (ha sc fnB X B e ct h3).1 pv⟩
                  | _ => simp [chP] at h
                | _ => cases k <;> simp [chP] at h
              | _ => cases k <;> simp [chP] at h
            | _ => cases k <;> simp [chP] at h
          | _ => cases k <;> simp [chP] at h
theorem okP_lend (i : Nat) (l : IA) : OkP c call (.lend i l) := fun sc fnB X B ks keys es ct h => by
  simp [chP] at h
theorem okO_no : OkO c call .no := fun sc fnB X B e ct h => by
  unfold chO at h
  split at h
  · exact rd_no
  · cases h
theorem okO_yes {a : IE} (ha : OkE c call a) : OkO c call (.yes a) := fun sc fnB X B e ct h => by
  unfold chO at h
  split at h
  · exact rd_yes (ha sc fnB X B _ ct h).1
  · cases h
theorem okT_no : OkT c call .no := fun sc fnB X B e ct h => by
  unfold chT at h
  split at h
  · exact rt_no
  · cases h
theorem okT_yes {a : IE} (ha : OkE c call a) : OkT c call (.yes a) := fun sc fnB X B e ct h => by
  unfold chT at h
  split at h
  · exact pts_one (ha sc fnB X B _ ct h).2.1
  · cases h
theorem okI_val {a : IE} (ha : OkE c call a) : OkI c call (.val a) := fun sc fnB X B tg e ct h => ri_val (ha sc fnB X B e ct h).1
theorem okI_rg1 {a : IE} (ha : OkE c call a) : OkI c call (.rg1 a) := fun sc fnB X B tg e ct h => by
  unfold chI at h
  split at h
  · rename_i f p1 x p2
    simp only [Bool.and_eq_true] at h
    obtain ⟨h1, h2, h3⟩ := h
    obtain ⟨rfl, m1, g1⟩ := freeB_ok ct h1
    exact ri_rg1 g1 m1 h2 (ha sc fnB X B x ct h3).1
  · cases h
theorem okI_rg2 {a b : IE} (ha : OkE c call a) (hb : OkE c call b) : OkI c call (.rg2 a b) := fun sc fnB X B tg e ct h => by
  unfold chI at h
  split at h
  · rename_i f p1 x y p2
    simp only [Bool.and_eq_true] at h
    obtain ⟨h1, h2, h3, h4, h5⟩ := h
    obtain ⟨rfl, m1, g1⟩ := freeB_ok ct h1
    exact ri_rg2 g1 m1 h2 h3 (ha sc fnB X B x ct h4).1 (hb sc fnB X B y ct h5).1
  · cases h
theorem okI_enm {a : IE} (ha : OkE c call a) : OkI c call (.enm a) := fun sc fnB X B tg e ct h => by
  unfold chI at h
  split at h
  · rename_i es k p f p1 x p2
    simp only [Bool.and_eq_true] at h
    obtain ⟨h1, h2, h3⟩ := h
    obtain ⟨rfl, m1, g1⟩ := freeB_ok ct h1
    exact ri_enm g1 m1 h2 (ha sc fnB X B x ct h3).1
  · cases h
theorem okI_zip {a b : IE} (ha : OkE c call a) (hb : OkE c call b) : OkI c call (.zip a b) := fun sc fnB X B tg e ct h => by
  unfold chI at h
  split at h
  · rename_i es k p f p1 x y p2
    simp only [Bool.and_eq_true] at h
    obtain ⟨h1, h2, h3, h4, h5⟩ := h
    obtain ⟨rfl, m1, g1⟩ := freeB_ok ct h1
    exact ri_zip g1 m1 h2 h3 (ha sc fnB X B x ct h4).1 (hb sc fnB X B y ct h5).1
  · cases h
mutual
theorem okE (c : Ck) (call : Nat → List Sl → CR) : ∀ e : IE, OkE c call e
  | .cst d => ok_cst d
  | .var i => ok_var i
  | .glob y d => ok_glob y d
  | .bin o a b => ok_bin o (okE c call a) (okE c call b)
  | .neg a => ok_neg (okE c call a)
  | .cmp o a b => ok_cmp o (okE c call a) (okE c call b)
  | .chn o p a b d => ok_chn o p (okE c call a) (okE c call b) (okE c call d)
  | .not a => ok_not (okE c call a)
  | .and a b => ok_and (okE c call a) (okE c call b)
  | .or a b => ok_or (okE c call a) (okE c call b)
  | .ife t a b => ok_ife (okE c call t) (okE c call a) (okE c call b)
  | .tup l => ok_tup (okA c call l)
  | .lst l => ok_lst (okA c call l)
  | .idx a i => ok_idx (okE c call a) (okE c call i)
  | .slc a lo hi => ok_slc (okE c call a) (okO c call lo) (okO c call hi)
  | .isi a t => ok_isi t (okE c call a)
  | .call f y l => ok_call f y (okR c call l)
  | .bl1 b a => ok_bl1 b (okE c call a)
  | .un u a => ok_un u (okE c call a)
  | .bl2 b a d => ok_bl2 b (okE c call a) (okE c call d)
  | .dsp ks l => ok_dsp ks (okP c call l)
  | .mg1 o k => ok_mg1 (okE c call o) (okE c call k)
  | .mg2 o k d => ok_mg2 (okE c call o) (okE c call k) (okE c call d)
  | .emp t => ok_emp t
  | .din n k d => ok_din n (okE c call k) (okE c call d)
  | .dix d k => ok_dix (okE c call d) (okE c call k)
  | .sdk d k v => ok_sdk (okE c call d) (okE c call k) (okE c call v)
  | .tin n l d => ok_tin n (okA c call l) (okE c call d)
  | .tix d l => ok_tix (okE c call d) (okA c call l)
  | .tg1 d l => ok_tg1 (okE c call d) (okA c call l)
  | .tg2 d l v => ok_tg2 (okE c call d) (okA c call l) (okE c call v)
  | .sdt d l v => ok_sdt (okE c call d) (okA c call l) (okE c call v)
  | .cm1 own elt t it cn => ok_cm1 own t (okE c call elt) (okI c call it) (okT c call cn)
  | .cmo own elt t i cn => ok_cmo own t i (okE c call elt) (okT c call cn)
  | .cm2 own own2 elt t it cn t2 it2 cn2 => ok_cm2 own own2 t t2 (okE c call elt) (okI c call it) (okT c call cn) (okI c call it2) (okT c call cn2)
theorem okA (c : Ck) (call : Nat → List Sl → CR) : ∀ l : IA, OkA c call l
  | .nil => okA_nil
  | .cons a l => okA_cons (okE c call a) (okA c call l)
  | .lend i l => okA_lend i l
theorem okR (c : Ck) (call : Nat → List Sl → CR) : ∀ l : IA, OkR c call l
  | .nil => okR_nil
  | .cons a l => okR_cons (okE c call a) (okR c call l)
  | .lend i l => okR_lend i (okR c call l)
theorem okP (c : Ck) (call : Nat → List Sl → CR) : ∀ l : IA, OkP c call l
  | .nil => okP_nil
  | .cons a l => okP_cons (okE c call a) (okP c call l)
  | .lend i l => okP_lend i l
theorem okO (c : Ck) (call : Nat → List Sl → CR) : ∀ l : IO, OkO c call l
  | .no => okO_no
  | .yes a => okO_yes (okE c call a)
theorem okT (c : Ck) (call : Nat → List Sl → CR) : ∀ l : IO, OkT c call l
  | .no => okT_no
  | .yes a => okT_yes (okE c call a)
theorem okI (c : Ck) (call : Nat → List Sl → CR) : ∀ l : II, OkI c call l
  | .val a => okI_val (okE c call a)
  | .rg1 a => okI_rg1 (okE c call a)
  | .rg2 a b => okI_rg2 (okE c call a) (okE c call b)
  | .enm a => okI_enm (okE c call a)
  | .zip a b => okI_zip (okE c call a) (okE c call b)
end
end
end Ev

end
section
set_option linter.all false
set_option maxHeartbeats 4000000
/-! Statements. -/
namespace Ev
open PySem PySem.Spec PyProof.Rows L2
/-- from one state of a body to a later one -/
structure Go (K : Fg) (B : Bs) (σ : L2.St) (r : Env) (F H : Hp) (σ' : L2.St) (r' : Env) (F' H' : Hp) : Prop where
  st : StR K B F' H' σ' r'
  mono : Sub F F'
  frame : ∀ a o, H a = some o → ¬ Own σ r a → H' a = some o
  dom : ∀ a, H a ≠ none → H' a ≠ none
  fr : ∀ a, F' a ≠ none → F a ≠ none ∨ H a = none ∨ Own σ r a
  own : ∀ a, Own σ' r' a → Own σ r a ∨ H a = none
section
variable {K : Fg} {B : Bs} {σ σ' σ2 : L2.St} {r r' r1 r2 : Env} {F H F' H' F1 H1 F2 H2 : Hp}
theorem Go.refl (s : StR K B F H σ r) : Go K B σ r F H σ r F H := ⟨s, Sub.refl _, fun _ _ h _ => h, fun _ h => h, fun _ h => .inl h, fun _ h => .inl h⟩
theorem Post.go (p : Post K B σ r F H r' F' H') : Go K B σ r F H σ r' F' H' := ⟨p.st, p.mono, p.frame, p.dom, p.fr, fun a h => .inl (p.own a h)⟩
theorem AsnP.go {sl : List Nat} (a : AsnP K B F H sl σ r σ' r') : Go K B σ r F H σ' r' F H := ⟨a.st, Sub.refl _, fun _ _ h _ => h, fun _ h => h, fun _ h => .inl h, fun c h => .inl (a.own c h)⟩
theorem Go.trans (a : Go K B σ r F H σ' r' F' H') (b : Go K B σ' r' F' H' σ2 r2 F2 H2) : Go K B σ r F H σ2 r2 F2 H2 where
  st := b.st
  mono := a.mono.trans b.mono
  frame := fun c o h n => b.frame c o (a.frame c o h n) fun q => (a.own c q).elim n fun z => by rw [z] at h; cases h
  dom := fun c h => b.dom c (a.dom c h)
  fr := fun c h => by
    rcases b.fr c h with q | q | q
    · exact a.fr c q
    · exact .inr (.inl (Classical.byContradiction fun n => a.dom c n q))
    · exact .inr ((a.own c q).elim .inr .inl)
  own := fun c h => by
    rcases b.own c h with q | q
    · exact a.own c q
    · exact .inr (Classical.byContradiction fun n => a.dom c n q)
end
/-- what is wanted behind a statement -/
def EndR (K : Fg) (B : Bs) (D : Ends) (fl : Fl) (σ' : L2.St) (F' H' : Hp) : Prop :=
  match fl with
  | .nx => D.nx σ' H'
  | .brk => D.bk σ' H'
  | .cnt => D.ct σ' H'
  | .ret b v => ∀ x, TvR K B.h [] F' H' (if b = true then .f v else .d v) x → D.rt x H'
def RdS (K : Fg) (B : Bs) (g : Env → Res Fl) : TS := fun D σ H => ∃ F r, StR K B F H σ r ∧ ∃ fl r', g r = .ok fl r' ∧ ∀ σ' F' H', Go K B σ r F H σ' r' F' H' → EndR K B D fl σ' F' H'
theorem PS.imp {X : Cx} {e : Stmt} {t t' : TS} (h : PS X e t) (w : ∀ D σ H, t' D σ H → t D σ H) : PS X e t' := ⟨fun pins s σ H D I q => h.run pins s σ H D I (w D σ H q)⟩
theorem PSs.imp {X : Cx} {e : List Stmt} {t t' : TS} (h : PSs X e t) (w : ∀ D σ H, t' D σ H → t D σ H) : PSs X e t' := ⟨fun pins s σ H D I q => h.run pins s σ H D I (w D σ H q)⟩
def notComp : Expr → Bool
  | .ListComp _ _ _ _ => false
  | .SetComp _ _ _ _ => false
  | .DictComp _ _ _ _ _ => false
  | _ => true
theorem sw_no {e : Expr} {tg : Option Expr} {l : Nat} {env : PySem.Env} (h : notComp e = true) : swapsWith e tg l env = pure false := by
  cases e <;> first | rfl | (simp [notComp] at h)
section
variable {X : Cx} {B : Bs} {pos : Pos} {e c : Expr} {g : Env → Res TV} {gc : Env → Res Bool} {gs gt : Env → Res Fl}
theorem rs_pas : PS X (.Pass pos) (RdS X.K B fun r => .ok .nx r) := PS.imp ps_pass fun D σ H ⟨F, r, s, fl, r', e, k⟩ => by
  cases e
  exact k σ F H (Go.refl s)
theorem rs_brk : PS X (.Break pos) (RdS X.K B fun r => .ok .brk r) := PS.imp ps_break fun D σ H ⟨F, r, s, fl, r', e, k⟩ => by
  cases e
  exact k σ F H (Go.refl s)
theorem rs_cnt : PS X (.Continue pos) (RdS X.K B fun r => .ok .cnt r) := PS.imp ps_continue fun D σ H ⟨F, r, s, fl, r', e, k⟩ => by
  cases e
  exact k σ F H (Go.refl s)
theorem rs_rse {st : Stmt} {cl : Str} : PS X st (RdS X.K B fun r => .exc cl .none r) := PS.imp ps_never fun D σ H ⟨F, r, s, fl, r', e, k⟩ => by cases e
theorem rs_ex (hs : notComp e = true) (he : PE X e (RdE X.K B g)) : PS X (.Expr e pos) (RdS X.K B fun r => (g r).bind fun _ r1 => .ok .nx r1) :=
  PS.imp (ps_expr he (sw_no hs)) fun D σ H ⟨F, r, s, fl, r', q, k⟩ => by
    obtain ⟨x, r1, e1, q⟩ := bind_inv q
    cases q
    exact ⟨F, r, s, x, r', e1, fun xv F1 H1 p1 _ => k σ F1 H1 p1.go⟩
theorem rs_doc {x : Str} {j : Nat} {p2 : Pos} : PS X (.Expr (.Constant (.str x) j p2) pos) (RdS X.K B fun r => .ok .nx r) := PS.imp ps_doc fun D σ H ⟨F, r, s, fl, r', e, k⟩ => by
  cases e
  exact k σ F H (Go.refl s)
theorem rs_retN : PS X (.Return none pos) (RdS X.K B fun r => .ok (.ret false .none) r) := PS.imp ps_retN fun D σ H ⟨F, r, s, fl, r', e, k⟩ => by
  cases e
  exact k σ F H (Go.refl s) .non .non
theorem rs_ret (he : PE X e (RdE X.K B g)) : PS X (.Return (some e) pos) (RdS X.K B fun r => (g r).bind fun x r1 => match x with
      | .d v => .ok (.ret false v) r1
      | .f v => .ok (.ret true v) r1
      | .s i => match r1[i]? with
        | some (.own d) => .ok (.ret true d) r1
        | _ => .stuck) := PS.imp (ps_ret he) fun D σ H ⟨F, r, s, fl, r', q, k⟩ => by
  obtain ⟨x, r1, e1, q⟩ := bind_inv q
  refine ⟨F, r, s, x, r1, e1, fun xv F1 H1 p1 t1 => ?_⟩
  split at q
  · cases q
    exact k σ F1 H1 p1.go xv t1
  · cases q
    obtain ⟨p, o, h1, h2, h3, h4, h5⟩ := t1
    exact k σ F1 H1 p1.go xv ⟨p, o, h1, h2, h3, h4, Classical.byContradiction fun n => s.dom p n h5⟩
  · rename_i i
    split at q
    · rename_i d hd
      cases q
      obtain ⟨a, o, h1, h2, h3, h4⟩ := p1.st.obj i d (.inl hd)
      have h5 : σ[i]? = some (some xv) := t1
      rw [h1] at h5
      cases h5
      exact k σ F1 H1 p1.go _ ⟨a, o, rfl, h2, h3, h4, p1.st.new i d a hd h1⟩
    · cases q
theorem rs_if {a b : List Stmt} (hc : PT X c (RdC X.K B gc)) (ha : PSs X a (RdS X.K B gs)) (hb : PSs X b (RdS X.K B gt)) : PS X (.If c a b pos) (RdS X.K B fun r => (gc r).bind fun t r1 => match t with
      | true => gs r1
      | false => gt r1) := PS.imp (ps_if hc ha hb) fun D σ H ⟨F, r, s, fl, r', q, k⟩ => by
  obtain ⟨x, r1, e1, q⟩ := bind_inv q
  refine ⟨F, r, s, x, r1, e1, fun F1 H1 p1 => ?_⟩
  cases x with
  | true =>
    rw [if_pos rfl]
    exact ⟨F1, r1, p1.st, fl, r', q, fun σ' F' H' g => k σ' F' H' (p1.go.trans g)⟩
  | false =>
    rw [if_neg (by decide)]
    exact ⟨F1, r1, p1.st, fl, r', q, fun σ' F' H' g => k σ' F' H' (p1.go.trans g)⟩
theorem rs_nil : PSs X [] (RdS X.K B fun r => .ok .nx r) := PSs.imp pss_nil fun D σ H ⟨F, r, s, fl, r', e, k⟩ => by
  cases e
  exact k σ F H (Go.refl s)
theorem EndR.up {K : Fg} {D : Ends} {n : L2.St → Hp → Prop} {fl : Fl} {σ' : L2.St} {F' H' : Hp} (h : EndR K B D fl σ' F' H') (hn : fl ≠ .nx) : EndR K B { D with nx := n } fl σ' F' H' := by
  cases fl with
  | nx => exact absurd rfl hn
  | brk => exact h
  | cnt => exact h
  | ret b v => exact h
theorem rs_cons {st : Stmt} {sts : List Stmt} (h1 : PS X st (RdS X.K B gs)) (h2 : PSs X sts (RdS X.K B gt)) : PSs X (st :: sts) (RdS X.K B fun r => match gs r with
    | .ok .nx r1 => gt r1
    | o => o) := PSs.imp (pss_cons h1 h2) fun D σ H ⟨F, r, s, fl, r', q, k⟩ => by
  dsimp only at q
  split at q
  · rename_i r1 e1
    refine ⟨F, r, s, .nx, r1, e1, fun σ' F' H' g => ?_⟩
    exact ⟨F', r1, g.st, fl, r', q, fun σ2 F2 H2 g2 => k σ2 F2 H2 (g.trans g2)⟩
  · rename_i hn
    have hne : fl ≠ .nx := fun z => by subst z; exact hn r' q
    exact ⟨F, r, s, fl, r', q, fun σ' F' H' g => (k σ' F' H' g).up hne⟩
theorem rs_whl {body : List Stmt} {W : Nat} (hx : PassesOwn (model X.prog X.w) X.A X.env X.xe) (hc : PT X c (RdC X.K B gc)) (hb : PSs X body (RdS X.K B gs)) : PS X (.While c body [] pos) (RdS X.K B fun r => whileN gc gs W r) :=
  PS.imp (ps_while hx hc hb) fun D σ H ⟨F, r, s, fl, rE, q, k⟩ => by
    refine ⟨fun m σ' H' => ∃ F' rr, Go X.K B σ r F H σ' rr F' H' ∧ whileN gc gs m rr = .ok fl rE, ⟨W, F, r, Go.refl s, q⟩, ?_⟩
    rintro m σ1 H1 ⟨F1, r1, g1, q1⟩
    cases m with
    | zero => cases q1
    | succ m =>
      unfold whileN at q1
      obtain ⟨t, r2, e2, q1⟩ := bind_inv q1
      refine ⟨F1, r1, g1.st, t, r2, e2, fun F2 H2 p2 => ?_⟩
      have g2 := g1.trans p2.go
      cases t with
      | false =>
        cases q1
        show if false = true then _ else D.nx σ1 H2
        rw [if_neg (by decide)]
        exact k σ1 F2 H2 g2
      | true =>
        dsimp only at q1
        dsimp only
        rw [if_pos rfl]
        refine ⟨fun σ' H' => ∃ F' rr, Go X.K B σ r F H σ' rr F' H' ∧ whileN gc gs m rr = .ok fl rE, fun σ' H' z => ⟨m, Nat.lt_succ_self _, z⟩, F2, r2, p2.st, ?_⟩
        split at q1
        · rename_i r3 e3
          exact ⟨_, _, e3, fun σ' F' H' g => ⟨F', r3, g2.trans g, q1⟩⟩
        · rename_i r3 e3
          exact ⟨_, _, e3, fun σ' F' H' g => ⟨F', r3, g2.trans g, q1⟩⟩
        · rename_i r3 e3
          cases q1
          exact ⟨_, _, e3, fun σ' F' H' g => k σ' F' H' (g2.trans g)⟩
        · rename_i b v r3 e3
          cases q1
          exact ⟨_, _, e3, fun σ' F' H' g => k σ' F' H' (g2.trans g)⟩
        · cases q1
        · cases q1
theorem rs_for {tg iter : Expr} {t : IT} {gi : Env → Res (List D)} {body : List Stmt} (hx : PassesOwn (model X.prog X.w) X.A X.env X.xe) (hcm : X.calm = true) (hi : PI X tg iter (RdI X.K B gi)) (hg : PG X tg (RdG X.K B t)) (hb : PSs X body (RdS X.K B gs)) (hs : ∀ x, foldedSetIterable iter X.env x = pure x) :
    PS X (.For tg iter body [] pos) (RdS X.K B fun r => (gi r).bind fun xs r1 => forL (fun x r2 => (asn t (.d x) r2).bind fun _ r3 => gs r3) xs r1) :=
  PS.imp (ps_for hx hcm hi hg hb hs) fun D σ H ⟨F, r, s, fl, rE, q, k⟩ => by
    obtain ⟨xs, r1, e1, q⟩ := bind_inv q
    refine ⟨F, r, s, xs, r1, e1, fun J F1 H1 p1 wk => ?_⟩
    refine ⟨fun i m σ' H' => m = xs.length - i ∧ i ≤ xs.length ∧ ∃ F' rr, Go X.K B σ r F H σ' rr F' H' ∧ Sub F1 F' ∧ forL (fun x r2 => (asn t (.d x) r2).bind fun _ r3 => gs r3) (xs.drop i) rr = .ok fl rE, ⟨xs.length, by simp, Nat.zero_le _, F1, r1, p1.go, Sub.refl _, q⟩, ?_⟩
    rintro i m σ2 H2 ⟨rfl, hi, F2, r2, g2, sb2, q2⟩
    by_cases hlt : i < xs.length
    · have hd : xs.drop i = xs[i] :: xs.drop (i + 1) := List.drop_eq_getElem_cons hlt
      rw [hd] at q2
      unfold forL at q2
      refine .inr ⟨wk.goes i H2 hlt (sb2.trans g2.st.sub), fun σ' H' => ∃ F' rr, Go X.K B σ r F H σ' rr F' H' ∧ Sub F1 F' ∧ forL (fun x r2 => (asn t (.d x) r2).bind fun _ r3 => gs r3) (xs.drop (i + 1)) rr = .ok fl rE,
        fun σ' H' z => ⟨xs.length - (i + 1), by omega, rfl, hlt, z⟩, fun x H' y => ?_⟩
      obtain ⟨d, hd2, out⟩ := wk.yields i H2 x H' hlt (sb2.trans g2.st.sub) y
      have ed : d = xs[i] := by
        rw [List.getElem?_eq_getElem hlt] at hd2
        exact (Option.some.inj hd2).symm
      subst ed
      obtain ⟨F3, p3, t3⟩ := (out.mono sb2).post g2.st
      have g3 := g2.trans p3.go
      have sb3 := sb2.trans p3.mono
      have key : ∀ (f2 : Fl) (r5 : Env), ((asn t (.d xs[i]) r2).bind fun _ r3 => gs r3) = .ok f2 r5 → (∀ σ' F' H'', Go X.K B σ r F H σ' r5 F' H'' → Sub F1 F' → EndR X.K B { D with nx := fun σ' H' => ∃ F' rr, Go X.K B σ r F H σ' rr F' H' ∧ Sub F1 F' ∧ forL (fun x r2 => (asn t (.d x) r2).bind fun _ r3 => gs r3) (xs.drop (i + 1)) rr = .ok fl rE, ct := fun σ' H' => ∃ F' rr, Go X.K B σ r F H σ' rr F' H' ∧ Sub F1 F' ∧ forL (fun x r2 => (asn t (.d x) r2).bind fun _ r3 => gs r3) (xs.drop (i + 1)) rr = .ok fl rE, bk := D.nx } f2 σ' F' H'') →
          RdG X.K B t x σ2 H' fun σ2 H2 => RdS X.K B gs { D with nx := fun σ' H' => ∃ F' rr, Go X.K B σ r F H σ' rr F' H' ∧ Sub F1 F' ∧ forL (fun x r2 => (asn t (.d x) r2).bind fun _ r3 => gs r3) (xs.drop (i + 1)) rr = .ok fl rE, ct := fun σ' H' => ∃ F' rr, Go X.K B σ r F H σ' rr F' H' ∧ Sub F1 F' ∧ forL (fun x r2 => (asn t (.d x) r2).bind fun _ r3 => gs r3) (xs.drop (i + 1)) rr = .ok fl rE, bk := D.nx } σ2 H2 := fun f2 r5 ef kk => by
        obtain ⟨_, r4, e4, ef⟩ := bind_inv ef
        refine ⟨F3, r2, xs[i], p3.st, t3, r4, e4, fun σ4 a4 => ⟨F3, r4, a4.st, f2, r5, ef, fun σ5 F5 H5 g5 => ?_⟩⟩
        exact kk σ5 F5 H5 ((g3.trans a4.go).trans g5) (sb3.trans g5.mono)
      split at q2
      · rename_i r5 e5
        exact key _ _ e5 fun σ' F' H'' g sb => ⟨F', r5, g, sb, q2⟩
      · rename_i r5 e5
        exact key _ _ e5 fun σ' F' H'' g sb => ⟨F', r5, g, sb, q2⟩
      · rename_i r5 e5
        cases q2
        exact key _ _ e5 fun σ' F' H'' g sb => k σ' F' H'' g
      · rename_i b v r5 e5
        cases q2
        exact key _ _ e5 fun σ' F' H'' g sb => k σ' F' H'' g
      · cases q2
      · cases q2
    · have ei : i = xs.length := by omega
      subst ei
      rw [List.drop_length] at q2
      cases q2
      exact .inl ⟨wk.stops H2 (sb2.trans g2.st.sub), k σ2 F2 H2 g2⟩
end
end Ev

end
section
set_option linter.all false
set_option maxHeartbeats 4000000
/-! Assignments. -/
namespace Ev
open PySem PySem.Spec PyProof.Rows L2
section
variable {K : Fg} {B : Bs} {σ : L2.St} {r r1 r2 : Env} {F H F1 H1 : Hp}
theorem slot_some {s : Sl} {i : Nat} (h : r1[i]? = some s) (e : r1.length = r2.length) : ∃ s', r2[i]? = some s' := by
  have h1 := (List.getElem?_eq_some_iff.mp h).1
  rw [e] at h1
  exact ⟨r2[i], by simp [h1]⟩
/-- a name's store, whatever is stored -/
theorem asn1_go {x : TV} {v : V} {i : Nat} {m : Bool} (s : StR K B F H σ r) (p : Post K B σ r F H r1 F1 H1) (t : TvR K H σ F1 H1 x v) (e : asn1 i m x r1 = .ok () r2) : ∃ F2, Go K B σ r F H (σ.set i (some v)) r2 F2 H1 := by
  unfold asn1 at e
  split at e
  · cases e
  · cases e
  · rename_i sl nb hs
    cases m with
    | true =>
      rw [if_pos rfl] at e
      split at e
      · rename_i d
        cases e
        obtain ⟨q, o, rfl, e1, e2, e3, e4⟩ := t
        have no : ¬ Own σ r1 q := fun z => p.ne s q z e4
        obtain ⟨st', ow'⟩ := asn_own p.st e1 e2 e3 no (Classical.byContradiction fun n => s.dom q n e4) hs
        exact ⟨F1, st', p.mono, p.frame, p.dom, p.fr, fun a h => (ow' a h).elim (fun z => .inl (p.own a z)) fun z => .inr (z ▸ e4)⟩
      · cases e
    | false =>
      rw [if_neg (by decide)] at e
      split at e
      · rename_i d r' hsol
        cases e
        obtain ⟨F2, p2, hv, _⟩ := solid_post s p t hsol
        obtain ⟨s', hs'⟩ := slot_some hs (p.st.len.symm.trans p2.st.len)
        exact ⟨F2, asn_val p2.st hv hs', p2.mono, p2.frame, p2.dom, p2.fr, fun a h => .inl (p2.own a (own_sub h))⟩
      · cases e
end
section
variable {X : Cx} {B : Bs} {pos : Pos} {e : Expr} {g : Env → Res TV}
theorem set_rd {i : Nat} {m : Bool} {D : Ends} {σ : L2.St} {H : Hp} (q : RdS X.K B (fun r => (g r).bind fun x r1 => (asn (.n i m) x r1).bind fun _ r2 => .ok .nx r2) D σ H) : RdE X.K B g σ H fun x H1 => gName i x σ H1 D.nx := by
  obtain ⟨F, r, s, fl, r', q, k⟩ := q
  obtain ⟨x, r1, e1, q⟩ := bind_inv q
  obtain ⟨_, r2, e2, q⟩ := bind_inv q
  cases q
  refine ⟨F, r, s, x, r1, e1, fun v F1 H1 p1 t1 => ?_⟩
  obtain ⟨F2, g2⟩ := asn1_go s p1 t1 e2
  exact k _ F2 H1 g2
theorem rs_set {i : Nat} {x : Str} {m : Bool} {p2 : Pos} (hN : X.N.Nodup) (hi : X.N[i]? = some x) (hx : Loc X.env.scope x) (hf : X.fn x = true ∨ X.env.scope.names.lookup x = some .local) (hs : swapsWith e (some (.Name x p2)) pos.line X.env = pure false) (he : PE X e (RdE X.K B g)) :
    PS X (.Assign [.Name x p2] e pos) (RdS X.K B fun r => (g r).bind fun x r1 => (asn (.n i m) x r1).bind fun _ r2 => .ok .nx r2) :=
  PS.imp (ps_set hN hi hx he hs hf) fun D σ H q => set_rd q
/-- [..] under a name on one line changes places with the block's value -/
def swB (sc scope : Scope) (y : Str) (py pos : Pos) : Bool := isLoc sc y && ((py.line == pos.line) && !(scope.names.any fun (n, k) => n == y && (k == .local || k == .cell)))
theorem sw_eq {elt : Expr} {gs : List Comprehension} {scope : Scope} {p py : Pos} {y : Str} {l : Nat} {env : PySem.Env} (hk : env.scope.kind = .function) : swapsWith (.ListComp elt gs scope p) (some (.Name y py)) l env = pure (swB env.scope scope y py p) := by
  have hb : env.blockKind = .function := by unfold Env.blockKind; rw [hk]; rfl
  have e1 : (env.kindOf y == some .local) = isLoc env.scope y := by
    have e0 : env.kindOf y = env.scope.names.lookup y := rfl
    rw [e0]
    unfold isLoc
    split
    · rename_i q; rw [q]; rfl
    · rename_i q
      cases z : env.scope.names.lookup y with
      | none => rfl
      | some kd =>
        cases kd <;> first | rfl | exact absurd z q
  show pure (env.blockKind == .function && env.kindOf y == some .local && py.line == p.line && !(scope.names.any fun (n, k) => n == y && (k == .local || k == .cell))) = _
  rw [hb, e1]
  unfold swB
  rw [Bool.and_assoc, Bool.and_assoc]
  rfl
theorem rs_setLc {i : Nat} {x : Str} {m : Bool} {p2 p3 : Pos} {tg iter elt : Expr} {ifs : List Expr} {scope : Scope} {own : List (Str × Nat)} {t : IT} {gi : Env → Res (List D)} {gt : Env → Res Bool} {ge : Env → Res TV} (hk : X.env.scope.kind = .function) (hi : X.N[i]? = some x) (hx : Loc X.env.scope x)
    (hf : X.fn x = true ∨ X.env.scope.names.lookup x = some .local) (h : Lc1 X B tg iter elt ifs scope own t gi gt ge) :
    PS X (.Assign [.Name x p2] (.ListComp elt [⟨tg, iter, ifs, 0⟩] scope p3) pos) (RdS X.K B fun r => (cm1G own t gi gt ge r).bind fun x r1 => (asn (.n i m) x r1).bind fun _ r2 => .ok .nx r2) := by
  have sw := sw_eq (elt := elt) (gs := [⟨tg, iter, ifs, 0⟩]) (scope := scope) (p := p3) (py := p2) (y := x) (l := pos.line) hk
  cases q : swB X.env.scope scope x p2 p3 with
  | false =>
    rw [q] at sw
    exact rs_set h.nd hi hx hf sw h.pe
  | true =>
    rw [q] at sw
    have hl : X.env.scope.names.lookup x = some .local := by
      unfold swB at q
      rw [Bool.and_eq_true] at q
      exact isLoc_ok q.1
    exact PS.imp (ps_setLc h.calm h.nd hi hl sw h.hi h.ok h.hg h.ht h.he h.hs) fun D σ H q => h.imp _ _ _ (set_rd q)
theorem rs_setLc2 {i : Nat} {x : Str} {m : Bool} {p2 p3 : Pos} {tg iter elt tg2 iter2 : Expr} {ifs ifs2 : List Expr} {scope : Scope} {own : List (Str × Nat)} {own2 : List Nat} {t t2 : IT} {gi gi2 : Env → Res (List D)} {gt gt2 : Env → Res Bool} {ge : Env → Res TV} (hk : X.env.scope.kind = .function) (hi : X.N[i]? = some x) (hx : Loc X.env.scope x)
    (hf : X.fn x = true ∨ X.env.scope.names.lookup x = some .local) (h : Lc2 X B tg iter elt tg2 iter2 ifs ifs2 scope own own2 t t2 gi gi2 gt gt2 ge) :
    PS X (.Assign [.Name x p2] (.ListComp elt [⟨tg, iter, ifs, 0⟩, ⟨tg2, iter2, ifs2, 0⟩] scope p3) pos) (RdS X.K B fun r => (cm2G own own2 t t2 gi gi2 gt gt2 ge r).bind fun x r1 => (asn (.n i m) x r1).bind fun _ r2 => .ok .nx r2) := by
  have sw := sw_eq (elt := elt) (gs := [⟨tg, iter, ifs, 0⟩, ⟨tg2, iter2, ifs2, 0⟩]) (scope := scope) (p := p3) (py := p2) (y := x) (l := pos.line) hk
  cases q : swB X.env.scope scope x p2 p3 with
  | false =>
    rw [q] at sw
    exact rs_set h.one.nd hi hx hf sw h.pe
  | true =>
    rw [q] at sw
    have hl : X.env.scope.names.lookup x = some .local := by
      unfold swB at q
      rw [Bool.and_eq_true] at q
      exact isLoc_ok q.1
    exact PS.imp (ps_setLc2 h.one.calm h.one.nd hi hl sw h.one.hi h.one.ok h.hv h.one.hg h.one.ht h.hi2 h.hg2 h.ht2 h.one.he h.one.hs h.hs2) fun D σ H q => h.imp _ _ _ (set_rd q)
theorem sws_no {t : Expr} {l : Nat} {env : PySem.Env} (h : notComp e = true) : swapsWithSole [t] e l env = pure false := by
  show swapsWith e (some t) l env = pure false
  exact sw_no h
def notTup : Expr → Bool
  | .Tuple _ _ _ => false
  | _ => true
theorem stores_no {ts : List Expr} {kt : Nat} {p2 : Pos} {env : PySem.Env} (h : notTup e = true) : swappedStores [.Tuple ts kt p2] e env = pure none := by
  cases e <;> first | rfl | (simp [notTup] at h)
theorem rp_of_tup {K : Fg} {B : Bs} {H0 : Hp} {σ : L2.St} {r : Env} {F H : Hp} {t : TV} {v : V} {xs : List D} (s : StR K B F H σ r) (h : TvR K H0 σ F H t v) (e : deref r t = some (.tuple xs)) : Rp K F v (.tuple xs) := by
  obtain ⟨a, ys, rfl, h1, h2⟩ := (deref_rq s h e).tup
  exact .tup h1 h2
/-- (a, b), c = a value -/
theorem rs_tup {es : List Expr} {kt : Nat} {p2 : Pos} {l : List IT} (hs : notComp e = true) (ht : notTup e = true) (he : PE X e (RdE X.K B g)) (hg : PG X (.Tuple es kt p2) (RdG X.K B (.t l))) :
    PS X (.Assign [.Tuple es kt p2] e pos) (RdS X.K B fun r => (g r).bind fun x r1 => (asn (.t l) x r1).bind fun _ r2 => .ok .nx r2) :=
  PS.imp (ps_asg he hg (sws_no hs) (stores_no ht)) fun D σ H ⟨F, r, s, fl, r', q, k⟩ => by
    obtain ⟨x, r1, e1, q⟩ := bind_inv q
    obtain ⟨_, r2, e2, q⟩ := bind_inv q
    cases q
    refine ⟨F, r, s, x, r1, e1, fun v F1 H1 p1 t1 => ?_⟩
    unfold asn at e2
    split at e2
    · rename_i xs hd
      exact ⟨F1, r1, .tuple xs, p1.st, rp_of_tup p1.st t1 hd, r', e2, fun σ' ap => k σ' F1 H1 (p1.go.trans ap.go)⟩
    · cases e2
/-- x[k] = value -/
theorem rs_sto {i : Nat} {x : Str} {k : Expr} {p2 p3 : Pos} {gk : Env → Res TV} (hN : X.N[i]? = some x) (hv : Vis X.env.scope x) (hd : (x == ("__debug__" : Str)) = false) (hcd : (x == ("__classdict__" : Str)) = false) (hs : notComp e = true) (hk : plainIxB k = true)
    (he : PE X e (RdE X.K B g)) (hkk : PE X k (RdE X.K B gk)) :
    PS X (.Assign [.Subscript (.Name x p2) k p3] e pos) (RdS X.K B fun r => (g r).bind fun x r1 => (solidR r1 x).bind fun v r2 => match mutAt r2 i with
      | some _ => (gk r2).bind fun y r3 =>
        match mutAt r3 i, deref r3 y with
        | some (.list xs), some (.int j) => match ixN xs.length j with
          | some m => .ok .nx (setAt r3 i (.list (xs.set m v)))
          | none => .stuck
        | _, _ => .stuck
      | none => .stuck) := by
  have hpa : ∀ v, assign (.Subscript (.Name x p2) k p3) X.env v = (do
      let ov ← holding [v] (eval (.Name x p2) X.env)
      let iv ← holding [v, ov] (eval k X.env)
      standAt p3
      holding [v, ov, iv] (setItem ov iv v)
      release [v, ov, iv] []) := by
    intro v
    cases k <;> first | rfl | (simp [plainIxB] at hk)
  have hsw : swappedStores [.Subscript (.Name x p2) k p3] e X.env = pure none := by
    cases e <;> rfl
  refine PS.imp (ps_asg he (pg_sub (pe_var hN hv hd hcd) hkk set_list hpa) (sws_no hs) hsw) fun D σ H ⟨F, r, s, fl, r', q, kk⟩ => ?_
  obtain ⟨xv, r1, e1, q⟩ := bind_inv q
  obtain ⟨v, r2, e2, q⟩ := bind_inv q
  refine ⟨F, r, s, xv, r1, e1, fun vv F1 H1 p1 t1 => ?_⟩
  obtain ⟨F2, pp2, h2, _⟩ := solid_post s p1 t1 (solidR_ok e2)
  split at q
  · rename_i d0 z0
    obtain ⟨y, r3, e3, q⟩ := bind_inv q
    obtain ⟨a, o, hσ, _⟩ := pp2.st.obj i d0 (mutAt_inv z0)
    refine ⟨_, hσ, F2, r2, pp2.st, y, r3, e3, fun yv F3 H3 p3 t3 => ?_⟩
    split at q
    · rename_i xs j z1 z2
      split at q
      · rename_i m hm
        cases q
        obtain ⟨a', o', hσ', ho, hf, hob⟩ := p3.st.obj i _ (mutAt_inv z1)
        rw [hσ] at hσ'
        cases hσ'
        obtain ⟨ys, rfl, rl⟩ := hob
        refine ⟨a, ys, j, m, rfl, (deref_rq p3.st t3 z2).int, ho, ?_, ?_⟩
        · rw [rl.length]
          exact hm
        · have hl : ObR X.K F3 (.lst (ys.set m vv)) (.list (xs.set m v)) := ⟨_, rfl, rl.set m (h2.mono p3.mono)⟩
          have st' := set_st (d := .list (xs.set m v)) p3.st (mutAt_inv z1) hσ hl
          have pp := pp2.trans p3
          have own_a : Own σ r a := pp.own a ⟨i, _, mutAt_inv z1, hσ⟩
          refine kk σ F3 _ ⟨st', pp.mono, fun b u hb hn => ?_, fun b hb => ?_, pp.fr, fun b hb => .inl (pp.own b (own_setAt hb))⟩
          · rw [upd_ne (fun z => hn (by rw [z]; exact own_a))]
            exact pp.frame b u hb hn
          · by_cases z : b = a
            · subst z; rw [upd_same]; simp
            · rw [upd_ne z]; exact pp.dom b hb
      · cases q
    · cases q
  · cases q
theorem mrgK_inv {u k v d : D} (h : mrgK u k v = some d) : ∃ ps, u = .dict ps ∧ isKey k = true ∧ (ps.all fun p => isKey p.1) = true ∧ ps.length < SZ ∧ d = .dict (putD ps k v) := by
  cases u with
  | dict ps =>
    have h' : (if (isKey k && ps.all (fun p => isKey p.1) && decide (ps.length < SZ)) = true then some (PyData.dict (putD ps k v)) else none) = some d := h
    split at h'
    · rename_i hc
      simp only [Bool.and_eq_true, decide_eq_true_eq] at hc
      cases h'
      exact ⟨ps, rfl, hc.1.1, hc.1.2, hc.2, rfl⟩
    · cases h'
  | _ => cases h
theorem mrgS_inv {u v d : D} {ks : List D} (h : mrgS u ks v = some d) : ∃ ps, u = .dict ((.none, .int 0) :: ps) ∧ ks.all isKey = true ∧ ks.length ≤ SZ ∧ ps.length < SZ ∧ d = .dict (markT :: putT ps ks v) := by
  unfold mrgS at h
  split at h
  · rename_i ps
    split at h
    · rename_i hc
      simp only [Bool.and_eq_true, decide_eq_true_eq] at hc
      cases h
      exact ⟨_, rfl, hc.1.1, hc.1.2, hc.2, rfl⟩
    · cases h
  · cases h
/-- x[k] = value, x a dict -/
theorem rs_dst {i : Nat} {x : Str} {k : Expr} {p2 p3 : Pos} {gk : Env → Res TV} (hu : X.A.units + 1 < cLine) (hN : X.N[i]? = some x) (hv : Vis X.env.scope x) (hd : (x == ("__debug__" : Str)) = false) (hcd : (x == ("__classdict__" : Str)) = false) (hs : notComp e = true)
    (he : PE X e (RdE X.K B g)) (hkk : PE X k (RdE X.K B gk)) :
    PS X (.Assign [.Subscript (.Name x p2) k p3] e pos) (RdS X.K B fun r => (g r).bind fun x r1 => (solidR r1 x).bind fun v r2 => match mutAt r2 i with
      | some _ => (gk r2).bind fun y r3 => match mutAt r3 i, deref r3 y with
        | some u, some kd => match mrgK u kd v with
          | some d => .ok .nx (setAt r3 i d)
          | none => .stuck
        | _, _ => .stuck
      | none => .stuck) := by
  refine PS.imp (ps_dput hu (pe_var hN hv hd hcd) hkk he (sw_no hs)) fun D σ H ⟨F, r, s, fl, r', q, kk⟩ => ?_
  obtain ⟨xv, r1, e1, q⟩ := bind_inv q
  obtain ⟨v, r2, e2, q⟩ := bind_inv q
  refine ⟨F, r, s, xv, r1, e1, fun vv F1 H1 p1 t1 => ?_⟩
  obtain ⟨F2, pp2, h2, _⟩ := solid_post s p1 t1 (solidR_ok e2)
  split at q
  · rename_i d0 z0
    obtain ⟨y, r3, e3, q⟩ := bind_inv q
    obtain ⟨a, o, hσ, _⟩ := pp2.st.obj i d0 (mutAt_inv z0)
    refine ⟨_, hσ, F2, r2, pp2.st, y, r3, e3, fun yv F3 H3 p3 t3 => ?_⟩
    split at q
    · rename_i u kd z1 z2
      split at q
      · rename_i nd hm
        cases q
        obtain ⟨ps, rfl, c1, c2, c3, rfl⟩ := mrgK_inv hm
        obtain ⟨a', o', hσ', ho, hf, hob⟩ := p3.st.obj i _ (mutAt_inv z1)
        rw [hσ] at hσ'
        cases hσ'
        obtain ⟨kvs, rfl, rk⟩ : ∃ kvs, o' = .dK kvs ∧ RpK X.K F3 kvs ps := by
          rcases hob with ⟨kvs, e3, h2⟩ | ⟨kvs, qs, e0, e3, h2⟩
          · exact ⟨kvs, e3, h2⟩
          · subst e0
            simp [isKey] at c2
        obtain ⟨kq, rfl⟩ := key_of_isKey c1
        have ey := rq_key (deref_rq p3.st t3 z2)
        subst ey
        have hl : kvs.length < sizeLine := by rw [rk.length, ← szl]; exact c3
        refine ⟨a, _, rfl, DPut.k ho hl, ?_⟩
        have hl : ObR X.K F3 (.dK (putK kvs kq vv)) (.dict (putD ps (keyD kq) v)) := .inl ⟨_, rfl, rk.put kq (h2.mono p3.mono)⟩
        have st' := set_st (d := .dict (putD ps (keyD kq) v)) p3.st (mutAt_inv z1) hσ hl
        have pp := pp2.trans p3
        have own_a : Own σ r a := pp.own a ⟨i, _, mutAt_inv z1, hσ⟩
        refine kk σ F3 _ ⟨st', pp.mono, fun b u hb hn => ?_, fun b hb => ?_, pp.fr, fun b hb => .inl (pp.own b (own_setAt hb))⟩
        · rw [upd_ne (fun z => hn (by rw [z]; exact own_a))]
          exact pp.frame b u hb hn
        · by_cases z : b = a
          · subst z; rw [upd_same]; simp
          · rw [upd_ne z]; exact pp.dom b hb
      · cases q
    · cases q
  · cases q
/-- x[k, ..] = value, x a dict -/
theorem rs_tst {i : Nat} {x : Str} {es : List Expr} {ctx : Nat} {p2 p3 p4 : Pos} {l : Env → Res (List D)} (hu : X.A.units + 1 < cLine) (hN : X.N[i]? = some x) (hv : Vis X.env.scope x) (hd : (x == ("__debug__" : Str)) = false) (hcd : (x == ("__classdict__" : Str)) = false) (hs : notComp e = true)
    (he : PE X e (RdE X.K B g)) (hkk : PA X es (RdA X.K B l)) :
    PS X (.Assign [.Subscript (.Name x p2) (.Tuple es ctx p4) p3] e pos) (RdS X.K B fun r => (g r).bind fun x r1 => (solidR r1 x).bind fun v r2 => match mutAt r2 i with
      | some _ => (l r2).bind fun ds r3 => match mutAt r3 i with
        | some u => match mrgS u ds v with
          | some d => .ok .nx (setAt r3 i d)
          | none => .stuck
        | none => .stuck
      | none => .stuck) := by
  refine PS.imp (ps_dput hu (pe_var hN hv hd hcd) (pe_tup hkk) he (sw_no hs)) fun D σ H ⟨F, r, s, fl, r', q, kk⟩ => ?_
  obtain ⟨xv, r1, e1, q⟩ := bind_inv q
  obtain ⟨v, r2, e2, q⟩ := bind_inv q
  refine ⟨F, r, s, xv, r1, e1, fun vv F1 H1 p1 t1 => ?_⟩
  obtain ⟨F2, pp2, h2, _⟩ := solid_post s p1 t1 (solidR_ok e2)
  split at q
  · rename_i d0 z0
    obtain ⟨ds, r3, e3, q⟩ := bind_inv q
    obtain ⟨a, o, hσ, _⟩ := pp2.st.obj i d0 (mutAt_inv z0)
    split at q
    · rename_i u z1
      split at q
      · rename_i nd hm
        cases q
        obtain ⟨ps, rfl, c1, c0, c3, rfl⟩ := mrgS_inv hm
        refine ⟨_, hσ, F2, r2, pp2.st, ds, r3, e3, fun xs F3 H3 p3 rl => ⟨by rw [rl.length, ← szl]; exact c0, fun b hb => ?_⟩⟩
        obtain ⟨a', o', hσ', ho, hf, hob⟩ := p3.st.obj i _ (mutAt_inv z1)
        rw [hσ] at hσ'
        cases hσ'
        obtain ⟨a2, kvs, ea2, ho2, rk⟩ := Rq.dit (K := X.K) p3.st.sub (Or.inr ⟨a, o', rfl, ho, hob⟩ : Rq X.K F3 H3 (.ref a) _)
        cases ea2
        rw [ho] at ho2
        cases ho2
        obtain ⟨kq, e6, e7⟩ := keysL rl c1
        subst e6 e7
        have hl : kvs.length < sizeLine := by rw [rk.length, ← szl]; exact c3
        have hba : b ≠ a := fun z => by rw [z, ho] at hb; cases hb
        have ho' : upd H3 b (.tup (kq.map kV)) a = some (.dT kvs) := by rw [upd_ne (Ne.symm hba)]; exact ho
        refine ⟨a, _, rfl, DPut.t ho' upd_same hl, ?_⟩
        have lb := laid (o := .tup (kq.map kV)) p3.st hb
        have hl : ObR X.K F3 (.dT (putK kvs kq vv)) (.dict (markT :: putT ps (kq.map keyD) v)) := .inr ⟨_, _, rfl, rfl, rk.put kq (h2.mono p3.mono)⟩
        have st' := set_st (d := .dict (markT :: putT ps (kq.map keyD) v)) lb.st (mutAt_inv z1) hσ hl
        have pp := (pp2.trans p3).trans lb
        have own_a : Own σ r a := pp.own a ⟨i, _, mutAt_inv z1, hσ⟩
        refine kk σ F3 _ ⟨st', pp.mono, fun b u hb hn => ?_, fun b hb => ?_, pp.fr, fun b hb => .inl (pp.own b (own_setAt hb))⟩
        · rw [upd_ne (fun z => hn (by rw [z]; exact own_a))]
          exact pp.frame b u hb hn
        · by_cases z : b = a
          · subst z; rw [upd_same]; simp
          · rw [upd_ne z]; exact pp.dom b hb
      · cases q
    · cases q
  · cases q
/-- x.append(value) -/
theorem rs_app {i : Nat} {x : Str} {p2 ap cp : Pos} (hN : X.N[i]? = some x) (hv : Vis X.env.scope x) (hd : (x == ("__debug__" : Str)) = false) (hcd : (x == ("__classdict__" : Str)) = false) (hl : (ap.endLine == cp.line) = true) (hp : plainE e = true)
    (he : PE X e (RdE X.K B g)) :
    PS X (.Expr (.Call (.Attribute (.Name x p2) "append" ap) [e] [] cp) pos) (RdS X.K B fun r => match mutAt r i with
    | some (.list _) => (g r).bind fun x r1 => (solidR r1 x).bind fun v r2 => match mutAt r2 i with
      | some (.list xs) => if xs.length < SZ then .ok .nx (setAt r2 i (.list (xs ++ [v]))) else .stuck
      | _ => .stuck
    | _ => .stuck) := by
  refine PS.imp (ps_expr (pe_bm PySem.F.plainAttrs_list PySem.F.slot_list_append PySem.F.type_list_append mt_append (pe_var hN hv hd hcd) (pa_cons he pa_nil (star_cons hp)) rfl (by rw [back_one hp]; rfl) hl (star_cons hp) rfl)) fun D σ H ⟨F, r, s, fl, r', q, kk⟩ => ?_
  dsimp only at q
  split at q
  · rename_i xs0 z0
    obtain ⟨xv, r1, e1, q⟩ := bind_inv q
    obtain ⟨v, r2, e2, q⟩ := bind_inv q
    obtain ⟨a, o, hσ, ho0, _, hob0⟩ := s.obj i _ (mutAt_inv z0)
    obtain ⟨ys0, rfl, _⟩ := hob0
    refine ⟨_, hσ, .inl ⟨rfl, ys0, SqL.of ho0⟩, F, r, s, xv, r1, e1, fun vv F1 H1 p1 t1 => ?_⟩
    obtain ⟨F2, pp, h2, _⟩ := solid_post s p1 t1 (solidR_ok e2)
    split at q
    · rename_i xs z1
      split at q
      · rename_i wl
        cases q
        obtain ⟨a', o', hσ', ho, hf, hob⟩ := pp.st.obj i _ (mutAt_inv z1)
        rw [hσ] at hσ'
        cases hσ'
        obtain ⟨ys, rfl, rl⟩ := hob
        refine ⟨a, ys, vv, rfl, rfl, ho, by rw [rl.length, ← szl]; exact wl, ?_⟩
        have hl : ObR X.K F2 (.lst (ys ++ [vv])) (.list (xs ++ [v])) := ⟨_, rfl, rl.append (.cons h2 .nil)⟩
        have st' := set_st (d := .list (xs ++ [v])) pp.st (mutAt_inv z1) hσ hl
        have own_a : Own σ r a := pp.own a ⟨i, _, mutAt_inv z1, hσ⟩
        refine kk σ F2 _ ⟨st', pp.mono, fun b u hb hn => ?_, fun b hb => ?_, pp.fr, fun b hb => .inl (pp.own b (own_setAt hb))⟩
        · rw [upd_ne (fun z => hn (by rw [z]; exact own_a))]
          exact pp.frame b u hb hn
        · by_cases z : b = a
          · subst z; rw [upd_same]; simp
          · rw [upd_ne z]; exact pp.dom b hb
      · cases q
    · cases q
  · cases q
end
end Ev

end
section
set_option linter.all false
set_option maxHeartbeats 4000000
/-! a, b = x, y -/
namespace Ev
open PySem PySem.Spec PyProof.Rows L2
/-- values, the new objects at ps -/
inductive TvL (K : Fg) (F H : Hp) : List TV → List V → List Addr → Prop
  | nil : TvL K F H [] [] []
  | d {d : D} {v : V} {ts : List TV} {vs : List V} {ps : List Addr} : Rp K F v d → TvL K F H ts vs ps → TvL K F H (.d d :: ts) (v :: vs) ps
  | f {d : D} {p : Addr} {o : HO} {ts : List TV} {vs : List V} {ps : List Addr} : H p = some o → F p = none → ObR K F o d → p ∉ ps → TvL K F H ts vs ps → TvL K F H (.f d :: ts) (.ref p :: vs) (p :: ps)
theorem TvL.len {K : Fg} {F H : Hp} : ∀ {ts : List TV} {vs : List V} {ps : List Addr}, TvL K F H ts vs ps → vs.length = ts.length
  | _, _, _, .nil => rfl
  | _, _, _, .d _ r => by rw [List.length_cons, List.length_cons, r.len]
  | _, _, _, .f _ _ _ _ r => by rw [List.length_cons, List.length_cons, r.len]
theorem TvL.keep {K : Fg} {F H F' H' : Hp} (m : Sub F F') : ∀ {ts : List TV} {vs : List V} {ps : List Addr}, TvL K F H ts vs ps → (∀ p ∈ ps, ∀ o, H p = some o → H' p = some o) → (∀ p ∈ ps, F' p = none) → TvL K F' H' ts vs ps
  | _, _, _, .nil, _, _ => .nil
  | _, _, _, .d h r, a, b => .d (h.mono m) (r.keep m a b)
  | _, _, _, .f h1 h2 h3 h4 r, a, b => .f (a _ List.mem_cons_self _ h1) (b _ List.mem_cons_self) (h3.mono m) h4 (r.keep m (fun p hp => a p (List.mem_cons_of_mem _ hp)) fun p hp => b p (List.mem_cons_of_mem _ hp))
theorem TvL.fnone {K : Fg} {F H : Hp} : ∀ {ts : List TV} {vs : List V} {ps : List Addr}, TvL K F H ts vs ps → ∀ p ∈ ps, F p = none
  | _, _, _, .nil, p, hp => nomatch hp
  | _, _, _, .d _ r, p, hp => r.fnone p hp
  | _, _, _, .f _ h2 _ _ r, p, hp => by
    rcases List.mem_cons.mp hp with rfl | hp
    · exact h2
    · exact r.fnone p hp
def RdF (K : Fg) (B : Bs) (g : Env → Res (List TV)) : TA := fun σ H Q => ∃ F r, StR K B F H σ r ∧ ∃ t r', g r = .ok t r' ∧ ∀ xs ps F' H', Post K B σ r F H r' F' H' → TvL K F' H' t xs ps → (∀ p ∈ ps, H p = none) → Q xs H'
section
variable {X : Cx} {B : Bs} {pos : Pos} {e a : Expr} {f g : Env → Res TV}
theorem rf_nil : PA X [] (RdF X.K B fun r => .ok [] r) := PA.imp pa_nil fun σ H Q ⟨F, r, s, t, r', e, k⟩ => by
  cases e
  exact k [] [] F H (Post.refl s) .nil fun p hp => nomatch hp
theorem rf_cons {es : List Expr} {fa : Env → Res (List TV)} (ha : PE X a (RdE X.K B f)) (hr : PA X es (RdF X.K B fa)) (hs : starEach (a :: es) X.env = (false, eval a X.env) :: starEach es X.env) :
    PA X (a :: es) (RdF X.K B fun r => (f r).bind fun x r1 => match x with
      | .f v => (fa r1).bind fun vs r3 => .ok (.f v :: vs) r3
      | x => (solidR r1 x).bind fun v r2 => (fa r2).bind fun vs r3 => .ok (.d v :: vs) r3) := by
  refine PA.imp (pa_cons ha hr hs) fun σ H Q ⟨F, r, s, t, r', e, k⟩ => ?_
  obtain ⟨x, r1, e1, e⟩ := bind_inv e
  refine ⟨F, r, s, x, r1, e1, fun xv F1 H1 p1 t1 => ?_⟩
  have sol : ∀ (e : ((solidR r1 x).bind fun v r2 => (fa r2).bind fun vs r3 => Res.ok (TV.d v :: vs) r3) = .ok t r'), RdF X.K B fa σ H1 fun xs H' => Q (xv :: xs) H' := fun e => by
    obtain ⟨v, r2, e2, e⟩ := bind_inv e
    obtain ⟨vs, r3, e3, e⟩ := bind_inv e
    cases e
    obtain ⟨F2, p2, h2, m2⟩ := solid_post s p1 t1 (solidR_ok e2)
    exact ⟨F2, r2, p2.st, vs, r', e3, fun xs ps F3 H3 p3 h3 n3 => k (xv :: xs) ps F3 H3 (p2.trans p3) (.d (h2.mono p3.mono) h3) fun p hp => Classical.byContradiction fun n => p2.dom p n (n3 p hp)⟩
  split at e
  · obtain ⟨vs, r3, e3, e⟩ := bind_inv e
    cases e
    refine ⟨F1, r1, p1.st, vs, r', e3, fun xs ps F3 H3 p3 h3 n3 => ?_⟩
    have t3 := t1.keep p3 (p1.ne s)
    obtain ⟨q, o, rfl, q1, q2, q3, q4⟩ := t3
    obtain ⟨q', o', z, z1, _⟩ := t1
    cases z
    refine k (.ref q :: xs) (q :: ps) F3 H3 (p1.trans p3) (.f q1 q2 q3 (fun hp => ?_) h3) fun p hp => ?_
    · rw [n3 q hp] at z1; cases z1
    · rcases List.mem_cons.mp hp with rfl | hp
      · exact q4
      · exact Classical.byContradiction fun n => p1.dom p n (n3 p hp)
  · exact sol e
end
/-- behind stores of values, the new objects at ps -/
structure AsT (K : Fg) (B : Bs) (H : Hp) (ps : List Addr) (σ : L2.St) (r : Env) (F : Hp) (σ' : L2.St) (r' : Env) (F' : Hp) : Prop where
  st : StR K B F' H σ' r'
  mono : Sub F F'
  fr : ∀ a, F' a ≠ none → F a ≠ none ∨ a ∈ ps
  own : ∀ a, Own σ' r' a → Own σ r a ∨ a ∈ ps
section
variable {K : Fg} {B : Bs} {σ σ' σ2 : L2.St} {r r' r2 : Env} {F H F' F2 : Hp}
theorem AsT.trans {ps qs : List Addr} (a : AsT K B H ps σ r F σ' r' F') (b : AsT K B H qs σ' r' F' σ2 r2 F2) : AsT K B H (ps ++ qs) σ r F σ2 r2 F2 :=
  ⟨b.st, a.mono.trans b.mono, fun c h => (b.fr c h).elim (fun z => (a.fr c z).imp id fun q => List.mem_append_left _ q) fun z => .inr (List.mem_append_right _ z),
    fun c h => (b.own c h).elim (fun z => (a.own c z).imp id fun q => List.mem_append_left _ q) fun z => .inr (List.mem_append_right _ z)⟩
theorem AsT.refl (s : StR K B F H σ r) : AsT K B H [] σ r F σ r F := ⟨s, Sub.refl _, fun _ h => .inl h, fun _ h => .inl h⟩
theorem AsT.go {ps : List Addr} (a : AsT K B H ps σ r F σ' r' F') {σ0 : L2.St} {r0 : Env} {F0 H0 : Hp} (p : Go K B σ0 r0 F0 H0 σ r F H) (h : ∀ q ∈ ps, H0 q = none) : Go K B σ0 r0 F0 H0 σ' r' F' H :=
  ⟨a.st, p.mono.trans a.mono, p.frame, p.dom, fun c hc => (a.fr c hc).elim (p.fr c) fun z => .inr (.inl (h c z)), fun c hc => (a.own c hc).elim (p.own c) fun z => .inr (h c z)⟩
/-- one name's store -/
theorem asn1_tv {x : TV} {v : V} {ps : List Addr} {i : Nat} {m : Bool} (s : StR K B F H σ r) (t : TvL K F H [x] [v] ps) (no : ∀ p ∈ ps, ¬ Own σ r p ∧ B.h p = none) (e : asn1 i m x r = .ok () r') : ∃ F', AsT K B H ps σ r F (σ.set i (some v)) r' F' := by
  unfold asn1 at e
  split at e
  · cases e
  · cases e
  · rename_i sl nb hs
    cases t with
    | d h _ =>
      cases m with
      | true => rw [if_pos rfl] at e; cases e
      | false =>
        rw [if_neg (by decide)] at e
        cases e
        exact ⟨F, asn_val s h hs, Sub.refl _, fun _ q => .inl q, fun a q => .inl (own_sub q)⟩
    | @f d p o _ _ ps h1 h2 h3 h4 rest =>
      obtain ⟨n1, n2⟩ := no p List.mem_cons_self
      cases m with
      | true =>
        rw [if_pos rfl] at e
        cases e
        obtain ⟨st', ow'⟩ := asn_own s h1 h2 h3 n1 n2 hs
        exact ⟨F, st', Sub.refl _, fun _ q => .inl q, fun a q => (ow' a q).imp id fun z => by rw [z]; exact List.mem_cons_self⟩
      | false =>
        rw [if_neg (by decide)] at e
        cases e
        have st1 := freeze (H0 := B.h) s h1 h2 n1
        refine ⟨upd F p o, asn_val st1 ((h3.mono (sub_upd h2)).rp upd_same) hs, sub_upd h2, fun a q => ?_, fun a q => .inl (own_sub q)⟩
        rcases upd_some q with z | z
        · exact .inr (by rw [z]; exact List.mem_cons_self)
        · exact .inl z
end
def RdT (K : Fg) (B : Bs) (t : IT) : TG := fun v σ H Q => ∃ F r x ps, StR K B F H σ r ∧ TvL K F H [x] [v] ps ∧ (∀ p ∈ ps, ¬ Own σ r p ∧ B.h p = none) ∧ ∃ r', asn t x r = .ok () r' ∧ ∀ σ' F', AsT K B H ps σ r F σ' r' F' → Q σ' H
def RdTs (K : Fg) (B : Bs) (t : List IT) : TGs := fun vs σ H Q => ∃ F r xs ps, StR K B F H σ r ∧ TvL K F H xs vs ps ∧ (∀ p ∈ ps, ¬ Own σ r p ∧ B.h p = none) ∧ ∃ r', asnP t xs r = .ok () r' ∧ ∀ σ' F', AsT K B H ps σ r F σ' r' F' → Q σ' H
section
variable {X : Cx} {B : Bs} {pos : Pos}
theorem rt_name {i : Nat} {x : Str} {m : Bool} (hN : X.N.Nodup) (hi : X.N[i]? = some x) (hx : Loc X.env.scope x) (hf : X.fn x = true ∨ X.env.scope.names.lookup x = some .local) : PG X (.Name x pos) (RdT X.K B (.n i m)) := by
  refine PG.weak (pg_name hN hi hx hf) fun v σ H Q ⟨F, r, x, ps, st, hv, no, r', e, k⟩ => ?_
  obtain ⟨F', a⟩ := asn1_tv st hv no e
  exact k _ F' a
theorem rt_tup {e : Expr} {l : List IT} (h : PG X e (RdG X.K B (.t l))) : PG X e (RdT X.K B (.t l)) := by
  refine PG.weak h fun v σ H Q ⟨F, r, x, ps, st, hv, no, r', e, k⟩ => ?_
  cases hv with
  | d h rest =>
    cases rest
    refine ⟨F, r, _, st, h, r', e, fun σ' a => k σ' F ⟨a.st, Sub.refl _, fun _ q => .inl q, fun c q => .inl (a.own c q)⟩⟩
  | @f d p o _ _ _ h1 h2 h3 h4 rest =>
    exfalso
    unfold asn at e
    split at e
    · rename_i xs q
      cases (show some d = some (PyData.tuple xs) from q)
      exact h3
    · cases e
theorem rts_nil : PGs X [] (RdTs X.K B []) := by
  refine PGs.weak pgs_nil fun vs σ H Q ⟨F, r, xs, ps, st, hv, no, r', e, k⟩ => ?_
  cases hv with
  | nil =>
    cases (show Res.ok () r = Res.ok () r' from e)
    exact ⟨rfl, k σ F (AsT.refl st)⟩
  | d _ _ => cases (show (Res.stuck : Res Unit) = Res.ok () r' from e)
  | f _ _ _ _ _ => cases (show (Res.stuck : Res Unit) = Res.ok () r' from e)
theorem rts_cons {e : Expr} {es : List Expr} {t : IT} {ts : List IT} (hp : plainE e = true) (h1 : PG X e (RdT X.K B t)) (h2 : PGs X es (RdTs X.K B ts)) : PGs X (e :: es) (RdTs X.K B (t :: ts)) := by
  refine PGs.weak (pgs_cons h1 h2 (by rw [each_cons hp]; rfl)) fun vs σ H Q ⟨F, r, xs, ps, st, hv, no, r', e, k⟩ => ?_
  cases hv with
  | nil => cases (show (Res.stuck : Res Unit) = Res.ok () r' from e)
  | @d d v ts' vs ps h rest =>
    obtain ⟨_, r1, e1, e2⟩ := bind_inv (show (asn t (.d d) r).bind (fun _ r' => asnP ts ts' r') = Res.ok () r' from e)
    refine ⟨v, vs, rfl, F, r, .d d, [], st, .d h .nil, (fun p hp => nomatch hp), r1, e1, fun σ1 F1 a1 => ?_⟩
    have nf : ∀ p ∈ ps, F1 p = none := fun p hp => by
      cases z : F1 p with
      | none => rfl
      | some u =>
        rcases a1.fr p (by rw [z]; simp) with w | w
        · exact absurd (TvL.fnone rest p hp) w
        · exact nomatch w
    refine ⟨F1, r1, ts', ps, a1.st, rest.keep a1.mono (fun _ _ _ q => q) nf, fun p hp => ⟨fun z => ?_, (no p hp).2⟩, r', e2, fun σ2 F2 a2 => k σ2 F2 (by simpa using a1.trans a2)⟩
    rcases a1.own p z with w | w
    · exact (no p hp).1 w
    · exact nomatch w
  | @f d p o ts' vs ps h1 h2 h3 h4 rest =>
    obtain ⟨_, r1, e1, e2⟩ := bind_inv (show (asn t (.f d) r).bind (fun _ r' => asnP ts ts' r') = Res.ok () r' from e)
    refine ⟨_, vs, rfl, F, r, .f d, [p], st, .f h1 h2 h3 (fun z => nomatch z) .nil, fun q hq => ?_, r1, e1, fun σ1 F1 a1 => ?_⟩
    · rcases List.mem_cons.mp hq with rfl | hq
      · exact no _ List.mem_cons_self
      · exact nomatch hq
    have nf : ∀ q ∈ ps, F1 q = none := fun q hq => by
      cases z : F1 q with
      | none => rfl
      | some u =>
        rcases a1.fr q (by rw [z]; simp) with w | w
        · exact absurd (TvL.fnone rest q hq) w
        · rcases List.mem_cons.mp w with rfl | w
          · exact absurd hq h4
          · exact nomatch w
    refine ⟨F1, r1, ts', ps, a1.st, rest.keep a1.mono (fun _ _ _ q => q) nf, fun q hq => ⟨fun z => ?_, (no q (List.mem_cons_of_mem _ hq)).2⟩, r', e2, fun σ2 F2 a2 => k σ2 F2 (by simpa using a1.trans a2)⟩
    rcases a1.own q z with w | w
    · exact (no q (List.mem_cons_of_mem _ hq)).1 w
    · rcases List.mem_cons.mp w with rfl | w
      · exact absurd hq h4
      · exact nomatch w
end
end Ev

end
section
set_option linter.all false
set_option maxHeartbeats 4000000
namespace Ev
open PySem PySem.Spec PyProof.Rows L2
def lineOf (ts : List Expr) : Nat := (ts.head?.map (·.pos.line)).getD 0
def namesOf (kd : Str → Option NameKind) (line : Nat) (ts : List Expr) : List Str := ts.filterMap fun
    | .Name id pos => if kd id == some .local && pos.line == line then some id else none
    | _ => none
def swapP (kd : Str → Option NameKind) (bk : ScopeKind) (ts vs : List Expr) : Option (Option (List Str)) :=
  if (!(ts.length == 2 || ts.length == 3) || vs.length != ts.length || bk != .function) = true then some none
  else if (vs.any fun | .Starred .. => true | _ => false) = true then some none
  else if ((namesOf kd (lineOf ts) ts).length != ts.length || (namesOf kd (lineOf ts) ts).eraseDups.length != (namesOf kd (lineOf ts) ts).length) = true then some none
  else if vs.all (foldedForSure 8) = true then some none
  else if vs.all (constantsAlone 8) = true then none
  else some (some (namesOf kd (lineOf ts) ts))
theorem swap_ok {env : PySem.Env} {ts vs : List Expr} {kt k2 : Nat} {p p2 : Pos} {o : Option (List Str)} (h : swapP env.kindOf env.blockKind ts vs = some o) : swappedStores [.Tuple ts kt p] (.Tuple vs k2 p2) env = pure o := by
  unfold swapP at h
  unfold swappedStores
  dsimp only
  split at h
  · rename_i w
    cases h
    exact if_pos w
  · rename_i w
    refine Eq.trans (if_neg w) ?_
    split at h
    · rename_i w
      cases h
      exact if_pos w
    · rename_i w
      refine Eq.trans (if_neg w) ?_
      split at h
      · rename_i w
        cases h
        exact if_pos w
      · rename_i w
        refine Eq.trans (if_neg w) ?_
        split at h
        · rename_i w
          cases h
          exact if_pos w
        · rename_i w
          refine Eq.trans (if_neg w) ?_
          split at h
          · cases h
          · rename_i w
            cases h
            exact if_neg w
theorem swap_none {env : PySem.Env} {sc : Scope} {ts vs : List Expr} {kt k2 : Nat} {p p2 : Pos} {o : Option (List Str)} (e : env.scope = sc) (hk : sc.kind = .function) (h : swapP (fun x => sc.names.lookup x) .function ts vs = some o) : swappedStores [.Tuple ts kt p] (.Tuple vs k2 p2) env = pure o := by
  subst e
  have hb : env.blockKind = .function := by unfold Env.blockKind; rw [hk]; rfl
  refine swap_ok ?_
  rw [hb]
  exact h
section
variable {X : Cx} {B : Bs} {pos : Pos}
theorem asnP_len : ∀ {ts : List IT} {xs : List TV} {r r' : Env}, asnP ts xs r = .ok () r' → xs.length = ts.length
  | [], [], _, _, _ => rfl
  | [], _ :: _, r, r', e => by cases (show (Res.stuck : Res Unit) = Res.ok () r' from e)
  | _ :: _, [], r, r', e => by cases (show (Res.stuck : Res Unit) = Res.ok () r' from e)
  | t :: ts, x :: xs, r, r', e => by
    obtain ⟨_, r1, _, e2⟩ := bind_inv (show (asn t x r).bind (fun _ r' => asnP ts xs r') = Res.ok () r' from e)
    rw [List.length_cons, List.length_cons, asnP_len e2]
theorem rs_asp {es vs : List Expr} {kt k2 : Nat} {p2 p3 : Pos} {ts : List IT} {g : Env → Res (List TV)} (hc : X.calm = true) (hp : es.all plainE = true) (hlen : es.length = ts.length) (hw : swappedStores [.Tuple es kt p2] (.Tuple vs k2 p3) X.env = pure none)
    (ha : PA X vs (RdF X.K B g)) (hg : PGs X es (RdTs X.K B ts)) :
    PS X (.Assign [.Tuple es kt p2] (.Tuple vs k2 p3) pos) (RdS X.K B fun r => (g r).bind fun xs r1 => if xs.length ≤ SZ then (asnP ts xs r1).bind fun _ r2 => .ok .nx r2 else .stuck) :=
  PS.imp (ps_asg (pe_tup ha) (pg_tup hc hg (each_len hp).1 (each_len hp).2) (sws_no rfl) hw) fun D σ H ⟨F, r, s, fl, r', q, k⟩ => by
    obtain ⟨tvs, r1, e1, q⟩ := bind_inv q
    split at q
    · rename_i wl
      obtain ⟨_, r2, e2, q⟩ := bind_inv q
      cases q
      refine ⟨F, r, s, tvs, r1, e1, fun xs ps F1 H1 p1 h1 n1 => ⟨by rw [h1.len, ← szl]; exact wl, fun p hp => ?_⟩⟩
      have lp := laid (o := .tup xs) p1.st hp
      refine ⟨p, xs, rfl, SqT.of upd_same, by rw [h1.len, asnP_len e2, hlen], F1, r1, tvs, ps, lp.st, h1.keep (Sub.refl _) (fun q _ o ho => ?_) (fun q hq => h1.fnone q hq), fun q hq => ⟨fun z => p1.ne s q z (n1 q hq), Classical.byContradiction fun n => s.dom q n (n1 q hq)⟩, r', e2, fun σ' F' a => ?_⟩
      · rw [upd_ne (ne_of_none ho hp)]; exact ho
      · exact k σ' F' _ (a.go (p1.trans lp).go n1)
    · cases q
theorem len2 {α : Type} {l : List α} (h : l.length = 2) : ∃ a b, l = [a, b] := by
  match l, h with
  | [a, b], _ => exact ⟨a, b, rfl⟩
theorem len3 {α : Type} {l : List α} (h : l.length = 3) : ∃ a b c, l = [a, b, c] := by
  match l, h with
  | [a, b, c], _ => exact ⟨a, b, c, rfl⟩
/-- a first store, then the rest -/
theorem step_tv {K : Fg} {B : Bs} {σ : L2.St} {r r1 : Env} {F H : Hp} {i : Nat} {m : Bool} {x : TV} {ts : List TV} {v : V} {vs : List V} {ps : List Addr} (s : StR K B F H σ r) (t : TvL K F H (x :: ts) (v :: vs) ps) (no : ∀ p ∈ ps, ¬ Own σ r p ∧ B.h p = none) (e : asn1 i m x r = .ok () r1) :
    ∃ qs rs F1, ps = qs ++ rs ∧ AsT K B H qs σ r F (σ.set i (some v)) r1 F1 ∧ TvL K F1 H ts vs rs ∧ ∀ p ∈ rs, ¬ Own (σ.set i (some v)) r1 p ∧ B.h p = none := by
  cases t with
  | @d d v ts' vs ps h rest =>
    obtain ⟨F1, a1⟩ := asn1_tv s (.d h .nil) (fun p hp => nomatch hp) e
    have nf : ∀ p ∈ ps, F1 p = none := fun p hp => by
      cases z : F1 p with
      | none => rfl
      | some u =>
        rcases a1.fr p (by rw [z]; simp) with w | w
        · exact absurd (TvL.fnone rest p hp) w
        · exact nomatch w
    refine ⟨[], ps, F1, rfl, a1, rest.keep a1.mono (fun _ _ _ q => q) nf, fun p hp => ⟨fun z => ?_, (no p hp).2⟩⟩
    rcases a1.own p z with w | w
    · exact (no p hp).1 w
    · exact nomatch w
  | @f d p o ts' vs ps h1 h2 h3 h4 rest =>
    obtain ⟨F1, a1⟩ := asn1_tv (ps := [p]) s (.f h1 h2 h3 (List.not_mem_nil) .nil) (fun q hq => by
      rcases List.mem_cons.mp hq with rfl | hq
      · exact no _ List.mem_cons_self
      · exact nomatch hq) e
    have nf : ∀ q ∈ ps, F1 q = none := fun q hq => by
      cases z : F1 q with
      | none => rfl
      | some u =>
        rcases a1.fr q (by rw [z]; simp) with w | w
        · exact absurd (TvL.fnone rest q hq) w
        · rcases List.mem_cons.mp w with rfl | w
          · exact absurd hq h4
          · exact nomatch w
    refine ⟨[p], ps, F1, rfl, a1, rest.keep a1.mono (fun _ _ _ q => q) nf, fun q hq => ⟨fun z => ?_, (no q (List.mem_cons_of_mem _ hq)).2⟩⟩
    rcases a1.own q z with w | w
    · exact (no q (List.mem_cons_of_mem _ hq)).1 w
    · rcases List.mem_cons.mp w with rfl | w
      · exact absurd hq h4
      · exact nomatch w
theorem two_tv {K : Fg} {B : Bs} {σ : L2.St} {r ra rb : Env} {F H : Hp} {i j : Nat} {m1 m2 : Bool} {x y : TV} {v w : V} {ps : List Addr} (s : StR K B F H σ r) (t : TvL K F H [x, y] [v, w] ps) (no : ∀ p ∈ ps, ¬ Own σ r p ∧ B.h p = none) (e1 : asn1 i m1 x r = .ok () ra) (e2 : asn1 j m2 y ra = .ok () rb) :
    ∃ F2, AsT K B H ps σ r F ((σ.set i (some v)).set j (some w)) rb F2 := by
  obtain ⟨q1, p1, F1, rfl, a1, t1, n1⟩ := step_tv s t no e1
  obtain ⟨q2, p2, F2, rfl, a2, t2, n2⟩ := step_tv a1.st t1 n1 e2
  cases t2
  exact ⟨F2, by simpa using a1.trans a2⟩
theorem three_tv {K : Fg} {B : Bs} {σ : L2.St} {r ra rb rc : Env} {F H : Hp} {i j l : Nat} {m1 m2 m3 : Bool} {x y z : TV} {v w u : V} {ps : List Addr} (s : StR K B F H σ r) (t : TvL K F H [x, y, z] [v, w, u] ps) (no : ∀ p ∈ ps, ¬ Own σ r p ∧ B.h p = none) (e1 : asn1 i m1 x r = .ok () ra) (e2 : asn1 j m2 y ra = .ok () rb) (e3 : asn1 l m3 z rb = .ok () rc) :
    ∃ F2, AsT K B H ps σ r F (((σ.set i (some v)).set j (some w)).set l (some u)) rc F2 := by
  obtain ⟨q1, p1, F1, rfl, a1, t1, n1⟩ := step_tv s t no e1
  obtain ⟨F2, a2⟩ := two_tv a1.st t1 n1 e2 e3
  exact ⟨F2, a1.trans a2⟩
theorem rs_par2 {i j : Nat} {x y : Str} {a b : Expr} {px py pt p3 : Pos} {kt k2 : Nat} {m1 m2 : Bool} {g : Env → Res (List TV)} (hc : X.calm = true) (hN : X.N.Nodup) (hi : X.N[i]? = some x) (hj : X.N[j]? = some y) (hij : i ≠ j)
    (hx : X.env.scope.names.lookup x = some .local) (hy : X.env.scope.names.lookup y = some .local) (hw : swappedStores [.Tuple [.Name x px, .Name y py] kt pt] (.Tuple [a, b] k2 p3) X.env = pure (some [x, y])) (ha : PA X [a, b] (RdF X.K B g)) :
    PS X (.Assign [.Tuple [.Name x px, .Name y py] kt pt] (.Tuple [a, b] k2 p3) pos) (RdS X.K B fun r => (g r).bind fun xs r1 => if xs.length ≤ SZ then (asnP [.n i m1, .n j m2] xs r1).bind fun _ r2 => .ok .nx r2 else .stuck) :=
  PS.imp (ps_par hc hN hi hj hij hx hy ha hw (sws_no rfl)) fun D σ H ⟨F, r, s, fl, r', q, k⟩ => by
    obtain ⟨tvs, r1, e1, q⟩ := bind_inv q
    split at q
    · rename_i wl
      obtain ⟨_, r2, e2, q⟩ := bind_inv q
      cases q
      refine ⟨F, r, s, tvs, r1, e1, fun xs ps F1 H1 p1 h1 n1 => ?_⟩
      have hl := asnP_len e2
      have hl2 := h1.len
      have no : ∀ q ∈ ps, ¬ Own σ r1 q ∧ B.h q = none := fun q hq => ⟨fun z => p1.ne s q z (n1 q hq), Classical.byContradiction fun n => s.dom q n (n1 q hq)⟩
      obtain ⟨F2, v, w, ev, a2⟩ : ∃ F2 v w, xs = [v, w] ∧ AsT X.K B H1 ps σ r1 F1 ((σ.set i (some v)).set j (some w)) r' F2 := by
        · obtain ⟨t1, t2, rfl⟩ := len2 hl
          obtain ⟨v, w, rfl⟩ := len2 hl2
          obtain ⟨_, ra, ea, eb⟩ := bind_inv (show (asn1 i m1 t1 r1).bind (fun _ r' => asnP [.n j m2] [t2] r') = Res.ok () r' from e2)
          obtain ⟨_, rb, eb, ec⟩ := bind_inv (show (asn1 j m2 t2 ra).bind (fun _ r' => asnP [] [] r') = Res.ok () r' from eb)
          cases (show Res.ok () rb = Res.ok () r' from ec)
          obtain ⟨Fb, ab⟩ := two_tv p1.st h1 no ea eb
          exact ⟨Fb, v, w, rfl, ab⟩
      subst ev
      exact ⟨v, w, rfl, k _ F2 H1 (a2.go p1.go n1)⟩
    · cases q
theorem rs_par3 {i j l : Nat} {x y z : Str} {a b c : Expr} {px py pz pt p3 : Pos} {kt k2 : Nat} {m1 m2 m3 : Bool} {g : Env → Res (List TV)} (hc : X.calm = true) (hN : X.N.Nodup) (hi : X.N[i]? = some x) (hj : X.N[j]? = some y) (hl : X.N[l]? = some z) (hij : i ≠ j) (hil : i ≠ l) (hjl : j ≠ l)
    (hx : X.env.scope.names.lookup x = some .local) (hy : X.env.scope.names.lookup y = some .local) (hz : X.env.scope.names.lookup z = some .local) (hw : swappedStores [.Tuple [.Name x px, .Name y py, .Name z pz] kt pt] (.Tuple [a, b, c] k2 p3) X.env = pure (some [x, y, z])) (ha : PA X [a, b, c] (RdF X.K B g)) :
    PS X (.Assign [.Tuple [.Name x px, .Name y py, .Name z pz] kt pt] (.Tuple [a, b, c] k2 p3) pos) (RdS X.K B fun r => (g r).bind fun xs r1 => if xs.length ≤ SZ then (asnP [.n i m1, .n j m2, .n l m3] xs r1).bind fun _ r2 => .ok .nx r2 else .stuck) :=
  PS.imp (ps_par3 hc hN hi hj hl hij hil hjl hx hy hz ha hw (sws_no rfl)) fun D σ H ⟨F, r, s, fl, r', q, k⟩ => by
    obtain ⟨tvs, r1, e1, q⟩ := bind_inv q
    split at q
    · rename_i wl
      obtain ⟨_, r2, e2, q⟩ := bind_inv q
      cases q
      refine ⟨F, r, s, tvs, r1, e1, fun xs ps F1 H1 p1 h1 n1 => ?_⟩
      have hl := asnP_len e2
      have hl2 := h1.len
      have no : ∀ q ∈ ps, ¬ Own σ r1 q ∧ B.h q = none := fun q hq => ⟨fun z => p1.ne s q z (n1 q hq), Classical.byContradiction fun n => s.dom q n (n1 q hq)⟩
      obtain ⟨F2, v, w, u, ev, a2⟩ : ∃ F2 v w u, xs = [v, w, u] ∧ AsT X.K B H1 ps σ r1 F1 (((σ.set i (some v)).set j (some w)).set l (some u)) r' F2 := by
        · obtain ⟨t1, t2, t3, rfl⟩ := len3 hl
          obtain ⟨v, w, u, rfl⟩ := len3 hl2
          obtain ⟨_, ra, ea, eb⟩ := bind_inv (show (asn1 i m1 t1 r1).bind (fun _ r' => asnP [.n j m2, .n l m3] [t2, t3] r') = Res.ok () r' from e2)
          obtain ⟨_, rb, eb, ec⟩ := bind_inv (show (asn1 j m2 t2 ra).bind (fun _ r' => asnP [.n l m3] [t3] r') = Res.ok () r' from eb)
          obtain ⟨_, rc, ec, ed⟩ := bind_inv (show (asn1 l m3 t3 rb).bind (fun _ r' => asnP [] [] r') = Res.ok () r' from ec)
          cases (show Res.ok () rc = Res.ok () r' from ed)
          obtain ⟨Fb, ab⟩ := three_tv p1.st h1 no ea eb ec
          exact ⟨Fb, v, w, u, rfl, ab⟩
      subst ev
      exact ⟨v, w, u, rfl, k _ F2 H1 (a2.go p1.go n1)⟩
    · cases q
end
end Ev

end
section
set_option linter.all false
set_option maxHeartbeats 4000000
namespace Ev
open PySem PySem.Spec PyProof.Rows L2
def isLC : IE → Expr → Bool
  | .cm1 _ _ _ _ _, .ListComp _ _ _ _ => true
  | .cm2 _ _ _ _ _ _ _ _ _, .ListComp _ _ _ _ => true
  | _, _ => false
def chV (c : Ck) (sc : Scope) (e : IE) (v : Expr) : Bool := chE c sc e v && (notComp v || isLC e v)
abbrev allB : Str → Bool := fun _ => true
def chT1 (c : Ck) (sc : Scope) : IT → Expr → Bool
  | .n i m, e => match e with
    | .Name x _ => slotB c i x && locB sc x
    | _ => false
  | .t l, e => chG c allB sc (.t l) e
def chTs (c : Ck) (sc : Scope) : List IT → List Expr → Bool
  | [], [] => true
  | t :: ts, e :: es => chT1 c sc t e && chTs c sc ts es
  | _, _ => false
def par2 (c : Ck) (sc : Scope) (ts : List IT) (es vs : List Expr) (nm : List Str) : Bool := match ts, es, vs, nm with
  | [.n i _, .n j _], [.Name x _, .Name y _], [_, _], [x', y'] => slotB c i x && (slotB c j y && (!(i == j) && (isLoc sc x && (isLoc sc y && ((x == x') && (y == y'))))))
  | _, _, _, _ => false
def par3 (c : Ck) (sc : Scope) (ts : List IT) (es vs : List Expr) (nm : List Str) : Bool := match ts, es, vs, nm with
  | [.n i _, .n j _, .n l _], [.Name x _, .Name y _, .Name z _], [_, _, _], [x', y', z'] => slotB c i x && (slotB c j y && (slotB c l z && (!(i == j) && (!(i == l) && (!(j == l) && (isLoc sc x && (isLoc sc y && (isLoc sc z && ((x == x') && ((y == y') && (z == z')))))))))))
  | _, _, _, _ => false
def chSwap (c : Ck) (sc : Scope) (ts : List IT) (es vs : List Expr) : Bool := match swapP (fun x => sc.names.lookup x) .function es vs with
  | some none => es.all plainE && ((es.length == ts.length) && chTs c sc ts es)
  | some (some nm) => par2 c sc ts es vs nm || par3 c sc ts es vs nm
  | none => false
mutual
def chS (c : Ck) (sc : Scope) : IS → Stmt → Bool
  | .asg t e, st => match st with
    | .Assign [tg] v _ => (match t with
      | .n i m => (match tg with
        | .Name x _ => slotB c i x && (locB sc x && chV c sc e v)
        | _ => false)
      | .t l => (match tg with
        | .Tuple es k p => notComp v && (notTup v && (chE c sc e v && chG c allB sc (.t l) (.Tuple es k p)))
        | _ => false))
    | _ => false
  | .asp ts l, st => match st with
    | .Assign [.Tuple es _ _] (.Tuple vs _ _) _ => chSwap c sc ts es vs && chA c sc l vs
    | _ => false
  | .sto i k e, st => match st with
    | .Assign [.Subscript (.Name x _) y _] v _ => slotB c i x && (visB sc x && (dbgB x && (notComp v && (plainIxB y && (chE c sc e v && chE c sc k y)))))
    | _ => false
  | .dst i k e, st => match st with
    | .Assign [.Subscript (.Name x _) y _] v _ => slotB c i x && (visB sc x && (dbgB x && (notComp v && (chE c sc e v && chE c sc k y))))
    | _ => false
  | .tst i l e, st => match st with
    | .Assign [.Subscript (.Name x _) (.Tuple es _ _) _] v _ => slotB c i x && (visB sc x && (dbgB x && (notComp v && (chE c sc e v && chA c sc l es))))
    | _ => false
  | .app i e, st => match st with
    | .Expr (.Call (.Attribute (.Name x _) m ap) [y] [] cp) _ => (m == ("append" : Str)) && (slotB c i x && (visB sc x && (dbgB x && ((ap.endLine == cp.line) && (plainE y && chE c sc e y)))))
    | _ => false
  | .ex e, st => match st with
    | .Expr v _ => notComp v && chE c sc e v
    | _ => false
  | .ret e, st => match st with
    | .Return (some v) _ => chE c sc e v
    | _ => false
  | .retN, st => match st with
    | .Return none _ => true
    | _ => false
  | .ifs t a b, st => match st with
    | .If t' p q _ => chE c sc t t' && (chB c sc a p && chB c sc b q)
    | _ => false
  | .whl t a, st => match st with
    | .While t' p [] _ => chE c sc t t' && chB c sc a p
    | _ => false
  | .fr t it a, st => match st with
    | .For tg iter p [] _ => chG c allB sc t tg && (notSet iter && (chI c sc it tg iter && chB c sc a p))
    | _ => false
  | .pas, st => match st with
    | .Pass _ => true
    | .Expr (.Constant (.str _) _ _) _ => true
    | _ => false
  | .brk, st => match st with
    | .Break _ => true
    | _ => false
  | .cnt, st => match st with
    | .Continue _ => true
    | _ => false
  | .rse _, st => match st with
    | .Raise _ _ _ => true
    | _ => false
def chB (c : Ck) (sc : Scope) : IB → List Stmt → Bool
  | .nil, l => match l with
    | [] => true
    | _ => false
  | .cons a r, l => match l with
    | st :: sts => chS c sc a st && chB c sc r sts
    | _ => false
end
theorem okF (c : Ck) (call : Nat → List Sl → CR) : ∀ (l : IA) (sc : Scope) (fnB : Str → Bool) (X : Cx) (B : Bs) (es : List Expr), Ct c call sc fnB X → chA c sc l es = true → PA X es (RdF X.K B (evF call l))
  | .nil, sc, fnB, X, B, es, ct, h => by
    unfold chA at h
    split at h
    · exact rf_nil
    · cases h
  | .cons a l, sc, fnB, X, B, es, ct, h => by
    unfold chA at h
    split at h
    · rename_i e r
      simp only [Bool.and_eq_true] at h
      obtain ⟨h1, h2, h3⟩ := h
      exact rf_cons (okE c call a sc fnB X B e ct h2).1 (okF c call l sc fnB X B r ct h3) (star_cons h1)
    · cases h
  | .lend i l, sc, fnB, X, B, es, ct, h => by simp [chA] at h
section
variable {c : Ck} {call : Nat → List Sl → CR} {sc : Scope} {X : Cx} {B : Bs}
theorem okT1 (ct : Ct c call sc allB X) : ∀ (t : IT) (e : Expr), chT1 c sc t e = true → PG X e (RdT X.K B t)
  | .n i m, e, h => by
    simp only [chT1] at h
    split at h
    · rename_i x p
      rw [Bool.and_eq_true] at h
      exact rt_name (ct.N ▸ ct.nd) (ct.N ▸ slotB_ok h.1) (ct.sc ▸ locB_ok h.2) (.inl (ct.fnb _ rfl))
    · cases h
  | .t l, e, h => rt_tup (okG ct (.t l) e h)
theorem okTs (ct : Ct c call sc allB X) : ∀ (t : List IT) (es : List Expr), chTs c sc t es = true → es.all plainE = true → PGs X es (RdTs X.K B t)
  | [], [], _, _ => rts_nil
  | [], _ :: _, h, _ => by simp [chTs] at h
  | _ :: _, [], h, _ => by simp [chTs] at h
  | t :: ts, e :: es, h, hp => by
    simp only [chTs, Bool.and_eq_true] at h
    rw [List.all_cons, Bool.and_eq_true] at hp
    exact rts_cons hp.1 (okT1 ct t e h.1) (okTs ct ts es h.2 hp.2)
theorem ne_ok {i j : Nat} (h : (!(i == j)) = true) : i ≠ j := by simpa using h
theorem ok_asp (ct : Ct c call sc allB X) (hk : sc.kind = .function) {ts : List IT} {l : IA} {es vs : List Expr} {k1 k2 : Nat} {p1 p2 pos : Pos} (h1 : chSwap c sc ts es vs = true) (h2 : chA c sc l vs = true) :
    PS X (.Assign [.Tuple es k1 p1] (.Tuple vs k2 p2) pos) (RdS X.K B fun r => (evF call l r).bind fun xs r1 => if xs.length ≤ SZ then (asnP ts xs r1).bind fun _ r2 => .ok .nx r2 else .stuck) := by
  have ha := okF c call l sc allB X B vs ct h2
  unfold chSwap at h1
  split at h1
  · rename_i hs
    simp only [Bool.and_eq_true] at h1
    obtain ⟨a1, a2, a3⟩ := h1
    exact rs_asp ct.calm a1 (eq_of_beq a2) (swap_none ct.sc hk hs) ha (okTs ct ts es a3 a1)
  · rename_i nm hs
    have hw := swap_none (env := X.env) (kt := k1) (k2 := k2) (p := p1) (p2 := p2) ct.sc hk hs
    rw [Bool.or_eq_true] at h1
    rcases h1 with h1 | h1
    · unfold par2 at h1
      split at h1
      · rename_i i m1 j m2 x px y py a b x' y'
        simp only [Bool.and_eq_true] at h1
        obtain ⟨b1, b2, b3, b4, b5, b6, b7⟩ := h1
        have e1 := eq_of_beq b6
        have e2 := eq_of_beq b7
        subst e1 e2
        exact rs_par2 ct.calm (ct.N ▸ ct.nd) (ct.N ▸ slotB_ok b1) (ct.N ▸ slotB_ok b2) (ne_ok b3) (ct.sc ▸ isLoc_ok b4) (ct.sc ▸ isLoc_ok b5) hw ha
      · cases h1
    · unfold par3 at h1
      split at h1
      · rename_i i m1 j m2 l' m3 x px y py z pz a b d x' y' z'
        simp only [Bool.and_eq_true] at h1
        obtain ⟨b1, b2, b3, b4, b5, b6, b7, b8, b9, b10, b11, b12⟩ := h1
        have e1 := eq_of_beq b10
        have e2 := eq_of_beq b11
        have e3 := eq_of_beq b12
        subst e1 e2 e3
        exact rs_par3 ct.calm (ct.N ▸ ct.nd) (ct.N ▸ slotB_ok b1) (ct.N ▸ slotB_ok b2) (ct.N ▸ slotB_ok b3) (ne_ok b4) (ne_ok b5) (ne_ok b6) (ct.sc ▸ isLoc_ok b7) (ct.sc ▸ isLoc_ok b8) (ct.sc ▸ isLoc_ok b9) hw ha
      · cases h1
  · cases h1
theorem ok_set (ct : Ct c call sc allB X) (hk : sc.kind = .function) {i : Nat} {m : Bool} {e : IE} {v : Expr} {x : Str} {p pos : Pos} (h1 : slotB c i x = true) (h2 : locB sc x = true) (h3 : chV c sc e v = true) :
    PS X (.Assign [.Name x p] v pos) (RdS X.K B fun r => (evE call e r).bind fun x r1 => (asn (.n i m) x r1).bind fun _ r2 => .ok .nx r2) := by
  unfold chV at h3
  rw [Bool.and_eq_true, Bool.or_eq_true] at h3
  obtain ⟨h3, h4⟩ := h3
  have hf : X.fn x = true ∨ X.env.scope.names.lookup x = some .local := .inl (ct.fnb _ rfl)
  have hi : X.N[i]? = some x := ct.N ▸ slotB_ok h1
  have hl : Loc X.env.scope x := ct.sc ▸ locB_ok h2
  have hkk : X.env.scope.kind = .function := by rw [ct.sc]; exact hk
  rcases h4 with h4 | h4
  · exact rs_set (ct.N ▸ ct.nd) hi hl hf (sw_no h4) (okE c call e sc allB X B v ct h3).1
  · unfold isLC at h4
    split at h4
    · rename_i own elt t it cn elt' gens scope lp
      unfold chE at h3
      split at h3
      · rename_i elt2 g scope2 p2 heq
        cases heq
        obtain ⟨tg, iter, ifs, asy⟩ := g
        simp only [Bool.and_eq_true] at h3
        obtain ⟨a1, a2, a3, a4, a5, a6, a7, a8⟩ := h3
        have e0 : asy = 0 := eq_of_beq a1
        subst e0
        exact rs_setLc hkk hi hl hf (lc1_of (okE c call elt) (okI c call it) (okT c call cn) B ct a2 a3 a4 a5 a6 a7 a8)
      · cases h3
    · rename_i own own2 elt t it cn t2 it2 cn2 elt' gens scope lp
      unfold chE at h3
      split at h3
      · rename_i elt2 g g2 scope2 p2 heq
        cases heq
        obtain ⟨tg, iter, ifs, asy⟩ := g
        obtain ⟨tg2, iter2, ifs2, asy2⟩ := g2
        simp only [Bool.and_eq_true] at h3
        obtain ⟨a1, a2, a3, a4, a5, a6, a7, a8, a9, a10, a11, a12, a13, a14, a15⟩ := h3
        have e0 : asy = 0 := eq_of_beq a1
        have e02 : asy2 = 0 := eq_of_beq a9
        subst e0 e02
        exact rs_setLc2 hkk hi hl hf (⟨lc1_of (okE c call elt) (okI c call it) (okT c call cn) B ct a2 a3 a4 a5 a6 a7 a8, fun s H C cl fp => okI c call it2 _ _ _ B tg2 iter2 (ct.blk s H _ cl C fp) a11, fun s H C cl fp => okG (ct.blk s H _ cl C fp) t2 tg2 a12,
          fun s H C cl fp => okT c call cn2 _ _ _ B ifs2 (ct.blk s H _ cl C fp) a13, fun env => folded_ok a10, sub_ok a14, sub_ok a15⟩ : Lc2 X B tg iter _ tg2 iter2 ifs ifs2 _ own own2 t t2 (evI call it) (evI call it2) (evT call cn) (evT call cn2) (ev call elt).1)
      · cases h3
    · cases h4
end
mutual
theorem okS (c : Ck) (call : Nat → List Sl → CR) (W : Nat) {sc : Scope} {X : Cx} (B : Bs) (ct : Ct c call sc allB X) (hk : sc.kind = .function) (hx : PassesOwn (model X.prog X.w) X.A X.env X.xe) : ∀ (s : IS) (st : Stmt), chS c sc s st = true → PS X st (RdS X.K B (evS call W s))
  | .asg t e, st, h => by
    unfold chS at h
    split at h
    · rename_i tg v pos
      split at h
      · rename_i i m
        split at h
        · rename_i x p
          simp only [Bool.and_eq_true] at h
          obtain ⟨h1, h2, h3⟩ := h
          exact ok_set ct hk h1 h2 h3
        · cases h
      · rename_i l
        split at h
        · rename_i es k p
          simp only [Bool.and_eq_true] at h
          obtain ⟨h1, h2, h3, h4⟩ := h
          exact rs_tup h1 h2 (okE c call e sc allB X B v ct h3).1 (okG ct (.t l) _ h4)
        · cases h
    · cases h
  | .asp ts l, st, h => by
    unfold chS at h
    split at h
    · rw [Bool.and_eq_true] at h
      exact ok_asp ct hk h.1 h.2
    · cases h
  | .sto i k e, st, h => by
    unfold chS at h
    split at h
    · rename_i x p2 y p3 v pos
      simp only [Bool.and_eq_true] at h
      obtain ⟨h1, h2, h3, h4, h5, h6, h7⟩ := h
      obtain ⟨d1, d2⟩ := dbgB_ok h3
      exact rs_sto (ct.N ▸ slotB_ok h1) (ct.sc ▸ visB_ok h2) d1 d2 h4 h5 (okE c call e sc allB X B v ct h6).1 (okE c call k sc allB X B y ct h7).1
    · cases h
  | .dst i k e, st, h => by
    unfold chS at h
    split at h
    · rename_i x p2 y p3 v pos
      simp only [Bool.and_eq_true] at h
      obtain ⟨h1, h2, h3, h4, h6, h7⟩ := h
      obtain ⟨d1, d2⟩ := dbgB_ok h3
      exact rs_dst (un1 ct.un) (ct.N ▸ slotB_ok h1) (ct.sc ▸ visB_ok h2) d1 d2 h4 (okE c call e sc allB X B v ct h6).1 (okE c call k sc allB X B y ct h7).1
    · cases h
  | .tst i l e, st, h => by
    unfold chS at h
    split at h
    · rename_i x p2 es k1 p4 p3 v pos
      simp only [Bool.and_eq_true] at h
      obtain ⟨h1, h2, h3, h4, h6, h7⟩ := h
      obtain ⟨d1, d2⟩ := dbgB_ok h3
      exact rs_tst (un1 ct.un) (ct.N ▸ slotB_ok h1) (ct.sc ▸ visB_ok h2) d1 d2 h4 (okE c call e sc allB X B v ct h6).1 (okA c call l sc allB X B es ct h7)
    · cases h
  | .app i e, st, h => by
    unfold chS at h
    split at h
    · rename_i x p2 m ap y cp pos
      simp only [Bool.and_eq_true] at h
      obtain ⟨h1, h2, h3, h4, h5, h6, h7⟩ := h
      obtain ⟨d1, d2⟩ := dbgB_ok h4
      have e1 := eq_of_beq h1
      subst e1
      exact rs_app (ct.N ▸ slotB_ok h2) (ct.sc ▸ visB_ok h3) d1 d2 h5 h6 (okE c call e sc allB X B y ct h7).1
    · cases h
  | .ex e, st, h => by
    unfold chS at h
    split at h
    · rename_i v pos
      rw [Bool.and_eq_true] at h
      exact rs_ex h.1 (okE c call e sc allB X B v ct h.2).1
    · cases h
  | .ret e, st, h => by
    unfold chS at h
    split at h
    · exact rs_ret (okE c call e sc allB X B _ ct h).1
    · cases h
  | .retN, st, h => by
    unfold chS at h
    split at h
    · exact rs_retN
    · cases h
  | .ifs t a b, st, h => by
    unfold chS at h
    split at h
    · simp only [Bool.and_eq_true] at h
      obtain ⟨h1, h2, h3⟩ := h
      exact rs_if (okE c call t sc allB X B _ ct h1).2.1 (okB c call W B ct hk hx a _ h2) (okB c call W B ct hk hx b _ h3)
    · cases h
  | .whl t a, st, h => by
    unfold chS at h
    split at h
    · simp only [Bool.and_eq_true] at h
      obtain ⟨h1, h2⟩ := h
      exact rs_whl hx (okE c call t sc allB X B _ ct h1).2.1 (okB c call W B ct hk hx a _ h2)
    · cases h
  | .fr t it a, st, h => by
    unfold chS at h
    split at h
    · simp only [Bool.and_eq_true] at h
      obtain ⟨h1, h2, h3, h4⟩ := h
      exact rs_for hx ct.calm (okI c call it sc allB X B _ _ ct h3) (okG ct t _ h1) (okB c call W B ct hk hx a _ h4) (folded_ok h2)
    · cases h
  | .pas, st, h => by
    unfold chS at h
    split at h
    · exact rs_pas
    · exact rs_doc
    · cases h
  | .brk, st, h => by
    unfold chS at h
    split at h
    · exact rs_brk
    · cases h
  | .cnt, st, h => by
    unfold chS at h
    split at h
    · exact rs_cnt
    · cases h
  | .rse cl, st, h => rs_rse
theorem okB (c : Ck) (call : Nat → List Sl → CR) (W : Nat) {sc : Scope} {X : Cx} (B : Bs) (ct : Ct c call sc allB X) (hk : sc.kind = .function) (hx : PassesOwn (model X.prog X.w) X.A X.env X.xe) : ∀ (s : IB) (st : List Stmt), chB c sc s st = true → PSs X st (RdS X.K B (evB call W s))
  | .nil, st, h => by
    unfold chB at h
    split at h
    · exact rs_nil
    · cases h
  | .cons a l, st, h => by
    unfold chB at h
    split at h
    · rw [Bool.and_eq_true] at h
      exact rs_cons (okS c call W B ct hk hx a _ h.1) (okB c call W B ct hk hx l _ h.2)
    · cases h
end
end Ev

end
section
set_option linter.all false
set_option maxHeartbeats 4000000
/-! Each def keeps the promise that the evaluator's call tells. -/
namespace Ev
open PySem PySem.Spec PyProof.Rows L2
section
variable {K : Fg} {F H : Hp}
theorem ArgsR.length : ∀ {vs : List V} {ss : List Sl}, ArgsR K F H vs ss → vs.length = ss.length
  | _, _, .nil => rfl
  | _, _, .v _ r => by rw [List.length_cons, List.length_cons, r.length]
  | _, _, .l _ _ _ r => by rw [List.length_cons, List.length_cons, r.length]
theorem ArgsR.get : ∀ {vs : List V} {ss : List Sl}, ArgsR K F H vs ss → ∀ (i : Nat) (s : Sl), ss[i]? = some s → (∃ d x, s = .val d ∧ vs[i]? = some x ∧ Rp K F x d) ∨ ∃ d a o, s = .bor d ∧ vs[i]? = some (.ref a) ∧ H a = some o ∧ F a = none ∧ ObR K F o d ∧ a ∈ lentA vs ss
  | _, _, .nil, i, s, h => by simp at h
  | _, _, .v (x := x) (d := d) hx r, 0, s, h => by
    simp only [List.getElem?_cons_zero, Option.some.injEq] at h
    exact .inl ⟨d, x, h.symm, rfl, hx⟩
  | _, _, .l (a := a) (o := o) (d := d) h1 h2 h3 r, 0, s, h => by
    simp only [List.getElem?_cons_zero, Option.some.injEq] at h
    exact .inr ⟨d, a, o, h.symm, rfl, h1, h2, h3, List.mem_cons_self⟩
  | _, _, .v (x := x) (d := d) (vs := vs) (ss := ss) hx r, i + 1, s, h => by
    simp only [List.getElem?_cons_succ] at h ⊢
    have el : lentA (x :: vs) (.val d :: ss) = lentA vs ss := by cases x <;> rfl
    rw [el]
    exact r.get i s h
  | _, _, .l (a := a) h1 h2 h3 r, i + 1, s, h => by
    simp only [List.getElem?_cons_succ] at h ⊢
    rcases r.get i s h with z | ⟨d, a, o, e1, e2, e3, e4, e5, e6⟩
    · exact .inl z
    · exact .inr ⟨d, a, o, e1, e2, e3, e4, e5, List.mem_cons_of_mem _ e6⟩
theorem ArgsR.inj : ∀ {vs : List V} {ss : List Sl}, ArgsR K F H vs ss → (lentA vs ss).Nodup → ∀ (i j : Nat) (d e : D) (a : Addr), ss[i]? = some (.bor d) → ss[j]? = some (.bor e) → vs[i]? = some (.ref a) → vs[j]? = some (.ref a) → i = j
  | _, _, .nil, _, i, j, d, e, a, h, _, _, _ => by simp at h
  | _, _, .v (x := x) (d := d0) (vs := vs) (ss := ss) hx r, n, i, j, d, e, a, h1, h2, h3, h4 => by
    have el : lentA (x :: vs) (.val d0 :: ss) = lentA vs ss := by cases x <;> rfl
    rw [el] at n
    cases i with
    | zero => simp at h1
    | succ i =>
      cases j with
      | zero => simp at h2
      | succ j =>
        simp only [List.getElem?_cons_succ] at h1 h2 h3 h4
        rw [r.inj n i j d e a h1 h2 h3 h4]
  | _, _, .l (a := a0) (vs := vs) (ss := ss) g1 g2 g3 r, n, i, j, d, e, a, h1, h2, h3, h4 => by
    have n' : a0 ∉ lentA vs ss ∧ (lentA vs ss).Nodup := List.nodup_cons.mp n
    cases i with
    | zero =>
      simp only [List.getElem?_cons_zero, Option.some.injEq] at h3
      cases h3
      cases j with
      | zero => rfl
      | succ j =>
        simp only [List.getElem?_cons_succ] at h2 h4
        rcases r.get j _ h2 with ⟨_, _, q, _⟩ | ⟨_, a', _, _, q, _, _, _, hm⟩
        · cases q
        · rw [h4] at q; cases q
          exact absurd hm n'.1
    | succ i =>
      simp only [List.getElem?_cons_succ] at h1 h3
      cases j with
      | zero =>
        simp only [List.getElem?_cons_zero, Option.some.injEq] at h4
        cases h4
        rcases r.get i _ h1 with ⟨_, _, q, _⟩ | ⟨_, a', _, _, q, _, _, _, hm⟩
        · cases q
        · rw [h3] at q; cases q
          exact absurd hm n'.1
      | succ j =>
        simp only [List.getElem?_cons_succ] at h2 h4
        rw [r.inj n'.2 i j d e a h1 h2 h3 h4]
theorem ArgsR.lent : ∀ {vs : List V} {ss : List Sl}, ArgsR K F H vs ss → ∀ a ∈ lentA vs ss, ∃ (i : Nat) (d : D), ss[i]? = some (.bor d) ∧ vs[i]? = some (.ref a)
  | _, _, .nil, a, h => nomatch h
  | _, _, .v (x := x) (d := d0) (vs := vs) (ss := ss) hx r, a, h => by
    have el : lentA (x :: vs) (.val d0 :: ss) = lentA vs ss := by cases x <;> rfl
    rw [el] at h
    obtain ⟨i, d, e1, e2⟩ := r.lent a h
    exact ⟨i + 1, d, by simpa using e1, by simpa using e2⟩
  | _, _, .l (a := a0) (d := d0) (vs := vs) (ss := ss) g1 g2 g3 r, a, h => by
    rcases List.mem_cons.mp (show a ∈ a0 :: lentA vs ss from h) with rfl | h
    · exact ⟨0, d0, rfl, rfl⟩
    · obtain ⟨i, d, e1, e2⟩ := r.lent a h
      exact ⟨i + 1, d, by simpa using e1, by simpa using e2⟩
theorem outs_bor : ∀ {ss : List Sl} {r' : Env} {outs : List D}, outsOf ss r' = some outs → ∀ (j : Nat) (d : D), ss[j]? = some (.bor d) → ∃ d', r'[j]? = some (.bor d')
  | [], _, _, _, j, d, h => by simp at h
  | .bor d0 :: l, .bor d1 :: r, outs, e, 0, d, h => ⟨d1, rfl⟩
  | .bor d0 :: l, .bor d1 :: r, outs, e, j + 1, d, h => by
    simp only [List.getElem?_cons_succ] at h ⊢
    obtain ⟨o, e1, _⟩ := Option.map_eq_some_iff.mp (show (outsOf l r).map (d1 :: ·) = some outs from e)
    exact outs_bor e1 j d h
  | .bor d0 :: l, [], outs, e, j, d, h => by cases e
  | .bor d0 :: l, .un :: r, outs, e, j, d, h => by cases e
  | .bor d0 :: l, .val _ :: r, outs, e, j, d, h => by cases e
  | .bor d0 :: l, .own _ :: r, outs, e, j, d, h => by cases e
  | .un :: l, [], outs, e, j, d, h => by cases e
  | .val _ :: l, [], outs, e, j, d, h => by cases e
  | .own _ :: l, [], outs, e, j, d, h => by cases e
  | .un :: l, s :: r, outs, e, j, d, h => by
    cases j with
    | zero => simp at h
    | succ j => exact outs_bor (show outsOf l r = some outs from e) j d (by simpa using h)
  | .val _ :: l, s :: r, outs, e, j, d, h => by
    cases j with
    | zero => simp at h
    | succ j => exact outs_bor (show outsOf l r = some outs from e) j d (by simpa using h)
  | .own _ :: l, s :: r, outs, e, j, d, h => by
    cases j with
    | zero => simp at h
    | succ j => exact outs_bor (show outsOf l r = some outs from e) j d (by simpa using h)
theorem outs_of {F' H' : Hp} : ∀ {vs : List V} {ss : List Sl}, ArgsR K F H vs ss → ∀ {r' : Env} {outs : List D}, outsOf ss r' = some outs →
    (∀ (j : Nat) (a : Addr) (d d' : D), vs[j]? = some (.ref a) → ss[j]? = some (.bor d) → r'[j]? = some (.bor d') → ∃ o, H' a = some o ∧ F' a = none ∧ ObR K F' o d') → OutsR K F' H' (lentA vs ss) outs
  | _, _, .nil, r', outs, e, hp => by
    cases (show some [] = some outs from e)
    exact .nil
  | _, _, .v (x := x) (d := d0) (vs := vs) (ss := ss) hx r, r', outs, e, hp => by
    have el : lentA (x :: vs) (.val d0 :: ss) = lentA vs ss := by cases x <;> rfl
    rw [el]
    cases r' with
    | nil => cases e
    | cons s r' => exact outs_of r (show outsOf ss r' = some outs from e) fun j a d d' h1 h2 h3 => hp (j + 1) a d d' (by simpa using h1) (by simpa using h2) (by simpa using h3)
  | _, _, .l (a := a0) (d := d0) (vs := vs) (ss := ss) g1 g2 g3 r, r', outs, e, hp => by
    cases r' with
    | nil => cases e
    | cons s r' =>
      cases s with
      | bor d1 =>
        obtain ⟨o, e1, e2⟩ := Option.map_eq_some_iff.mp (show (outsOf ss r').map (d1 :: ·) = some outs from e)
        subst e2
        obtain ⟨ob, q1, q2, q3⟩ := hp 0 a0 d0 d1 rfl rfl rfl
        exact .cons q1 q2 q3 (outs_of r e1 fun j a d d' h1 h2 h3 => hp (j + 1) a d d' (by simpa using h1) (by simpa using h2) (by simpa using h3))
      | un => cases e
      | val _ => cases e
      | own _ => cases e
end
/-- a def of the text: what the evaluator runs, what the row has -/
structure Dt where
  df : Df
  args : Arguments
  body : List Stmt
  sc : Scope
abbrev Dt.ps (d : Dt) : List Str := d.df.names.take d.df.np
def ckOf (T : List Dt) (bs : List Str) (gl : List (Str × D)) (N : List Str) : Ck := ⟨N, T.map (·.df.name), bs, gl⟩
def chD (T : List Dt) (bs : List Str) (gl : List (Str × D)) (d : Dt) : Bool := C8.scC d.df.names d.ps d.sc && (decide (d.df.np ≤ d.df.names.length) && chB (ckOf T bs gl d.df.names) d.sc d.df.body d.body)
/-- what is known of the text's names behind its top -/
structure Txt (K : Fg) (mg : Str → Option Value) (T : List Dt) (bs : List Str) (gl : List (Str × D)) (ad : Nat → Addr) (fd : Nat → FuncData) : Prop where
  fns : ∀ (i : Nat) (d : Dt), T[i]? = some d → FunD K d.df.name d.df.name d.args d.body d.sc [] [] (ad i) (fd i) ∧ mg d.df.name = some (.ref (ad i)) ∧ Binds K (fd i) d.ps []
  bs : ∀ x ∈ bs, mg x = none
  gl : ∀ (x : Str) (d : D), gl.lookup x = some d → ∃ (u : Value) (v : V), mg x = some u ∧ RelV v u ∧ Rp K (fun _ => none) v d
theorem start_get {N : List Str} {vs : List V} {i : Nat} {x : V} (h : vs[i]? = some x) : (L2.start N vs)[i]? = some (some x) := by
  unfold L2.start
  have hl := (List.getElem?_eq_some_iff.mp h).1
  rw [List.getElem?_append_left (by simpa using hl), List.getElem?_map, h]
  rfl
theorem start_st {K : Fg} {F H : Hp} {N : List Str} {vs : List V} {ss : List Sl} {n : Nat} (sb : Sub F H) (a : ArgsR K F H vs ss) (nd : (lentA vs ss).Nodup) (hn : n = N.length - vs.length) (hle : vs.length ≤ N.length) :
    StR K ⟨H, fun i a => (L2.start N vs)[i]? = some (some (.ref a))⟩ F H (L2.start N vs) (ss ++ List.replicate n .un) := by
  have gs : ∀ {i : Nat} {s : Sl}, (ss ++ List.replicate n .un)[i]? = some s → s ≠ .un → ss[i]? = some s := fun {i s} h hne => by
    by_cases hi : i < ss.length
    · rw [List.getElem?_append_left hi] at h; exact h
    · rw [List.getElem?_append_right (by omega)] at h
      rw [List.getElem?_replicate] at h
      split at h
      · cases h; exact absurd rfl hne
      · cases h
  have gb : ∀ {i : Nat} {d : D}, ((ss ++ List.replicate n .un)[i]? = some (.own d) ∨ (ss ++ List.replicate n .un)[i]? = some (.bor d)) → ∃ a o, ss[i]? = some (.bor d) ∧ vs[i]? = some (.ref a) ∧ H a = some o ∧ F a = none ∧ ObR K F o d := fun {i d} h => by
    rcases h with h | h
    · rcases a.get i _ (gs h (by simp)) with ⟨_, _, q, _⟩ | ⟨_, _, _, q, _⟩ <;> cases q
    · have h' := gs h (by simp)
      rcases a.get i _ h' with ⟨_, _, q, _⟩ | ⟨_, a, o, q, e2, e3, e4, e5, _⟩
      · cases q
      · cases q
        exact ⟨a, o, h', e2, e3, e4, e5⟩
  refine ⟨sb, fun _ h => h, ?_, fun i d h => ?_, fun i d h => ?_, fun i d p h w => ?_, fun i d p h w => w, fun i j d e p h1 h2 w1 w2 => ?_⟩
  · unfold L2.start
    rw [List.length_append, List.length_append, List.length_map, List.length_replicate, List.length_replicate, ← a.length, hn]
  · rcases a.get i _ (gs h (by simp)) with ⟨d', x, q, e2, e3⟩ | ⟨_, _, _, q, _⟩
    · cases q
      exact ⟨x, start_get e2, e3⟩
    · cases q
  · obtain ⟨p, o, e1, e2, e3, e4, e5⟩ := gb h
    exact ⟨p, o, start_get e2, e3, e4, e5⟩
  · rcases a.get i _ (gs h (by simp)) with ⟨_, _, q, _⟩ | ⟨_, _, _, q, _⟩ <;> cases q
  · obtain ⟨p1, o1, e1, e2, _⟩ := gb h1
    obtain ⟨p2, o2, e3, e4, _⟩ := gb h2
    rw [start_get e2] at w1
    rw [start_get e4] at w2
    cases w1
    cases w2
    exact a.inj nd i j d e p e1 e3 e2 e4
/-- a body's end is the call's end -/
theorem call_end {K : Fg} {F H F' H' : Hp} {N : List Str} {vs : List V} {ss : List Sl} {n : Nat} {σ' : L2.St} {r' : Env} {nw : Bool} {v : D} {outs : List D} {x : V} (a : ArgsR K F H vs ss)
    (g : Go K ⟨H, fun i a => (L2.start N vs)[i]? = some (some (.ref a))⟩ (L2.start N vs) (ss ++ List.replicate n .un) F H σ' r' F' H') (ho : outsOf ss r' = some outs) (tv : TvR K H [] F' H' (if nw = true then .f v else .d v) x) : CallP K F H (lentA vs ss) nw v outs x F' H' := by
  have ow : ∀ p, Own (L2.start N vs) (ss ++ List.replicate n .un) p → ∃ (i : Nat) (d : D), ss[i]? = some (.bor d) ∧ vs[i]? = some (.ref p) ∧ p ∈ lentA vs ss := fun p ⟨i, d, h, w⟩ => by
    have hs : ss[i]? = some (.bor d) := by
      have key : ∀ s : Sl, (ss ++ List.replicate n .un)[i]? = some s → s ≠ .un → ss[i]? = some s := fun s h hne => by
        by_cases hi : i < ss.length
        · rw [List.getElem?_append_left hi] at h; exact h
        · rw [List.getElem?_append_right (by omega), List.getElem?_replicate] at h
          split at h
          · cases h; exact absurd rfl hne
          · cases h
      rcases h with h | h
      · rcases a.get i _ (key _ h (by simp)) with ⟨_, _, q, _⟩ | ⟨_, _, _, q, _⟩ <;> cases q
      · exact key _ h (by simp)
    rcases a.get i _ hs with ⟨_, _, q, _⟩ | ⟨_, a', o, q, e2, _, _, _, hm⟩
    · cases q
    · rw [start_get e2] at w
      cases w
      exact ⟨i, d, hs, e2, hm⟩
  have ob : ∀ (j : Nat) (p : Addr) (d d' : D), vs[j]? = some (.ref p) → ss[j]? = some (.bor d) → r'[j]? = some (.bor d') → ∃ o, H' p = some o ∧ F' p = none ∧ ObR K F' o d' := fun j p d d' h1 h2 h3 => by
    obtain ⟨a', o, e1, e2, e3, e4⟩ := g.st.obj j d' (.inr h3)
    have e5 := g.st.lnt j d' a' h3 e1
    have e6 : (L2.start N vs)[j]? = some (some (.ref a')) := e5
    rw [start_get h1] at e6
    cases e6
    exact ⟨o, e2, e3, e4⟩
  refine ⟨g.st.sub, g.mono, fun p o h n => g.frame p o h fun z => ?_, g.dom, fun p h => ?_, tv, outs_of a ho ob⟩
  · obtain ⟨_, _, _, _, hm⟩ := ow p z
    exact n hm
  · rcases g.fr p h with z | z | z
    · exact .inl z
    · exact .inr z
    · obtain ⟨i, d, h1, h2, _⟩ := ow p z
      obtain ⟨d', h3⟩ := outs_bor ho i d h1
      obtain ⟨o, _, q, _⟩ := ob i p d d' h2 h1 h3
      exact absurd q h
theorem endCall_inv {ss : List Sl} {b : Bool} {v : D} {r' : Env} {fr : Bool} {w : D} {outs : List D} (h : endCall ss b v r' = .ok fr w outs) : b = fr ∧ v = w ∧ outsOf ss r' = some outs := by
  unfold endCall at h
  split at h
  · rename_i os e
    cases h
    exact ⟨rfl, rfl, e⟩
  · cases h
section
variable {P : Program} {w : World} {K : Fg} {mg : Str → Option Value} {base : Heap} {T : List Dt} {bs : List Str} {gl : List (Str × D)} {ad : Nat → Addr} {fd : Nat → FuncData}
/-- every def keeps its promise -/
theorem all_ok (t : Txt K mg T bs gl ad fd) (hch : T.all (chD T bs gl) = true) (W : Nat) : ∀ (n i : Nat) (d : Dt), T[i]? = some d → FnOk P w K mg base L2.CX0 n (ad i) (fd i) d.ps (spOf K (callN (T.map (·.df)) W n i))
  | 0, i, d, hd => ⟨fun vs H Q E ⟨F, ss, _, _, _, fr, v, outs, e, _⟩ => (by cases e), fun A outer s H args us vs Q E hr he hb hv ⟨F, ss, _, _, _, fr, v, outs, e, _⟩ => (by cases e)⟩
  | n + 1, i, d, hd => by
    obtain ⟨F0, _, _⟩ := t.fns i d hd
    have hc : chD T bs gl d = true := List.all_eq_true.mp hch d (List.mem_of_getElem? hd)
    unfold chD at hc
    simp only [Bool.and_eq_true, decide_eq_true_eq] at hc
    obtain ⟨c1, c2, c3⟩ := hc
    have S := C8.fnScope_by c1
    have pl : d.ps.length = d.df.np := by
      show (d.df.names.take d.df.np).length = _
      rw [List.length_take]
      omega
    have run : ∀ (ss : List Sl) (fr : Bool) (v : D) (outs : List D), callN (T.map (·.df)) W (n + 1) i ss = .ok fr v outs → ss.length = d.df.np ∧
        ∃ fl r', evB (callN (T.map (·.df)) W n) W d.df.body (ss ++ List.replicate (d.df.names.length - d.df.np) .un) = .ok fl r' ∧ outsOf ss r' = some outs ∧ ((fl = .nx ∧ fr = false ∧ v = .none) ∨ fl = .ret fr v) := fun ss fr v outs e => by
      have e0 : (T.map (·.df))[i]? = some d.df := by rw [List.getElem?_map, hd]; rfl
      unfold callN at e
      rw [e0] at e
      dsimp only at e
      unfold runDef at e
      split at e
      · rename_i hl
        refine ⟨hl, ?_⟩
        split at e
        · rename_i r' hr
          obtain ⟨h1, h2, h3⟩ := endCall_inv e
          exact ⟨_, _, hr, h3, .inl ⟨rfl, h1.symm, h2.symm⟩⟩
        · rename_i b u r' hr
          obtain ⟨h1, h2, h3⟩ := endCall_inv e
          subst h1 h2
          exact ⟨_, _, hr, h3, .inr rfl⟩
        · cases e
        · cases e
        · cases e
      · cases e
    refine F0.ok S (fun vs H Q E ⟨F, ss, _, a, _, fr, v, outs, e, _⟩ => ?_) fun cdv A outer s H vs Q E hr ⟨F, ss, sb, a, nd, fr, v, outs, e, k⟩ => ?_
    · rw [a.length, (run ss fr v outs e).1, pl]
    · obtain ⟨hl, fl, r', eb, ho, hend⟩ := run ss fr v outs e
      have hvl : vs.length = d.df.np := by rw [a.length, hl]
      refine ⟨RdS K ⟨H, fun i a => (L2.start d.df.names vs)[i]? = some (some (.ref a))⟩ (evB (callN (T.map (·.df)) W n) W d.df.body), PSs.nox ?_, ?_⟩
      · refine okB (ckOf T bs gl d.df.names) (callN (T.map (·.df)) W n) W _ ?_ S.kind ?_ d.df.body d.body c3
        rotate_left
        · exact PassesOwn.never
        refine ⟨rfl, S.nd, rfl, ?_, t.bs, fun j x hx => ?_, t.gl, rfl, fun _ _ => rfl⟩
        · have := hr.un
          show (A.deeper _).units + 65 < cLine
          omega
        · have hx' : (T.map (·.df.name))[j]? = some x := hx
          rw [List.getElem?_map, Option.map_eq_some_iff] at hx'
          obtain ⟨d', hd', rfl⟩ := hx'
          obtain ⟨F1, m1, b1⟩ := t.fns j d' hd'
          exact ⟨n, ad j, fd j, d'.ps, all_ok t hch W n j d' hd', hr, m1, F1.kp, b1⟩
      · refine ⟨F, _, start_st sb a nd (by rw [hvl]) (by rw [hvl]; exact c2), fl, r', eb, fun σ' F' H' g => ?_⟩
        rcases hend with ⟨rfl, rfl, rfl⟩ | rfl
        · exact k .non F' H' (call_end a g ho Rp.non)
        · exact fun x tv => k x F' H' (call_end a g ho tv)
end
end Ev

end
section
set_option linter.all false
set_option maxHeartbeats 4000000
/-! The head's facts make the text's. -/
namespace Ev
open PySem PySem.Spec PyProof.Rows L2
def ddOf (d : Dt) : He.DefD := ⟨(d.df.name, none), d.df.name, d.df.name, d.args, d.body, d.sc, [], []⟩
def glFa : Str × D → He.Fa
  | (x, .int i) => .int x i
  | (x, .str z) => .str x z
  | (x, _) => .free x
def glOk : Str × D → Bool
  | (_, .int _) => true
  | (_, .str _) => true
  | _ => false
def faOf (T : List Dt) (bs : List Str) (gl : List (Str × D)) : List He.Fa := T.map (fun d => .glo d.df.name) ++ (bs.map .free ++ gl.map glFa)
def BindOk (d : Dt) : Prop := ∀ (kV doc pm : Value) (an : Option Addr) (cdv ct : Value) (us : List Value), us.length = d.ps.length → bindArgs (PySem.W.fnOf d.df.name d.df.name d.args d.body d.sc .none kV doc pm an cdv ct) ⟨us, []⟩ = pure (d.ps.zip us)
def AllB : List Dt → Prop
  | [] => True
  | d :: T => BindOk d ∧ AllB T
theorem AllB.at : ∀ {T : List Dt}, AllB T → ∀ (i : Nat) (d : Dt), T[i]? = some d → BindOk d
  | [], _, i, d, h => by simp at h
  | e :: T, h, 0, d, q => by
    simp only [List.getElem?_cons_zero, Option.some.injEq] at q
    exact q ▸ h.1
  | e :: T, h, i + 1, d, q => AllB.at h.2 i d (by simpa using q)
theorem lookup_mem {x : Str} {d : D} : ∀ {l : List (Str × D)}, l.lookup x = some d → (x, d) ∈ l
  | [], h => by simp at h
  | (y, e) :: l, h => by
    rw [List.lookup_cons] at h
    split at h
    · rename_i q
      cases h
      rw [eq_of_beq q]
      exact List.mem_cons_self
    · exact List.mem_cons_of_mem _ (lookup_mem h)
section
variable {P : Program} {w : World} {K : Fg} {mg : Str → Option Value} {base : Heap} {T : List Dt} {bs : List Str} {gl : List (Str × D)} {h : Heap}
theorem fact_of {fa : List He.Fa} {fn : List He.DefD} (c : He.SaysD fa fn K) {f : He.Fa} (hf : f ∈ fa) : f.ok K = true := by
  obtain ⟨i, hi⟩ := List.getElem?_of_mem hf
  exact c.fact i hi
theorem txt_of (X : K.In h) (G : h.Ns mainGlobals mg) (hbn : AllB T) (hgl : gl.all glOk = true) (c : He.SaysD (faOf T bs gl) (T.map ddOf) K) : ∃ ad fd, Txt K mg T bs gl ad fd := by
  have one : ∀ i : Nat, ∃ p : Addr × FuncData, ∀ d : Dt, T[i]? = some d → FunD K d.df.name d.df.name d.args d.body d.sc [] [] p.1 p.2 ∧ mg d.df.name = some (.ref p.1) ∧ Binds K p.2 d.ps [] := fun i => by
    cases q : T[i]? with
    | none => exact ⟨(0, default), fun d hd => by cases hd⟩
    | some d =>
      have e : (T.map ddOf)[i]? = some (ddOf d) := by rw [List.getElem?_map, q]; rfl
      obtain ⟨fd, F⟩ := c.def_ i e
      have F' : FunD K d.df.name d.df.name d.args d.body d.sc [] [] (He.fAd K (d.df.name, none)) fd := F
      refine ⟨(He.fAd K (d.df.name, none), fd), fun d' hd' => ?_⟩
      cases hd'
      refine ⟨F', He.glo_ok X G (fact_of c ?_), F'.bindsN fun kV doc pm an cdv ct us hl => hbn.at i d q kV doc pm an cdv ct us hl⟩
      exact List.mem_append_left _ (List.mem_map.mpr ⟨d, List.mem_of_getElem? q, rfl⟩)
  obtain ⟨f, hf⟩ := Classical.skolem.mp one
  refine ⟨fun i => (f i).1, fun i => (f i).2, fun i d hd => hf i d hd, fun x hx => He.free_ok X G (fact_of c ?_), fun x d hd => ?_⟩
  · exact List.mem_append_right _ (List.mem_append_left _ (List.mem_map.mpr ⟨x, hx, rfl⟩))
  · have hm := lookup_mem hd
    have hfm : glFa (x, d) ∈ faOf T bs gl := List.mem_append_right _ (List.mem_append_right _ (List.mem_map.mpr ⟨_, hm, rfl⟩))
    have hg := List.all_eq_true.mp hgl _ hm
    cases d with
    | int i =>
      obtain ⟨t, ht⟩ := He.int_ok X G (fact_of c hfm)
      exact ⟨_, .int i, ht, ⟨t, rfl⟩, .int i⟩
    | str s =>
      obtain ⟨t, ht⟩ := He.str_ok X G (fact_of c hfm)
      exact ⟨_, .str s, ht, ⟨t, rfl⟩, .str s⟩
    | _ => simp [glOk] at hg
def scriptD (ns : List Int) : D := .dict [(.none, .list (ns.map .int))]
/-- the law's promise: true, whatever the script -/
def spLaw (K : Fg) : Sp := fun vs H Q _ => ∃ (a : Addr) (ns : List Int), vs = [.ref a] ∧ ns.length ≤ 63 ∧ SqL K H a (ns.map V.int) ∧ ∀ H', Q (.bl true) H'
theorem sp_law {cf : List Sl → CR} (pure : ∀ ns : List Int, ns.length ≤ 63 → cf [.val (scriptD ns)] = .ok false (.bool true) []) (vs : List V) (H : Hp) (Q : VK) (E : XK) (hq : spLaw K vs H Q E) : spOf K cf vs H Q E := by
  obtain ⟨a, ns, rfl, hn, hS, k⟩ := hq
  have hr : RpL K H (ns.map V.int) (ns.map PyData.int) := RpL.of V.int PyData.int (fun i => .int i) ns
  refine ⟨H, [.val (scriptD ns)], Sub.refl _, .v (.scr hS hr) .nil, ?_, false, .bool true, [], pure ns hn, fun x F' H' p => ?_⟩
  · exact List.nodup_nil
  · have v : Rp K F' x (.bool true) := p.value
    cases v
    exact k H'
theorem facts_of {f : Addr} {W n il : Nat} (hT : T.all (chD T bs gl) = true) (hbn : AllB T) (hgl : gl.all glOk = true) {d : Dt} (hd : T[il]? = some d) {y : Str} (hps : d.ps = [y]) (pure : ∀ ns : List Int, ns.length ≤ 63 → callN (T.map (·.df)) W n il [.val (scriptD ns)] = .ok false (.bool true) [])
    (X : K.In h) (G : h.Ns mainGlobals mg) (hfa : mg d.df.name = some (.ref f)) (c : He.SaysD (faOf T bs gl) (T.map ddOf) K) :
    ∃ fd : FuncData, (∀ (s : Shared) (v : Value), BindsTo s fd ⟨[v], []⟩ [(y, v)]) ∧ ∀ base : Heap, K.In base → base.Ns mainGlobals mg → FnOk P w K mg base L2.CX0 n f fd [y] (spLaw K) := by
  obtain ⟨ad, fd, t⟩ := txt_of X G hbn hgl c
  obtain ⟨F, m, _⟩ := t.fns il d hd
  have e := hfa.symm.trans m
  cases e
  refine ⟨fd il, fun s v => ?_, fun base _ _ => ?_⟩
  · have := FunD.bindsA (ps := d.ps) F (fun kV doc pm an cdv ct us hl => hbn.at il d hd kV doc pm an cdv ct us hl) s [v] (by rw [hps]; rfl)
    rw [hps] at this
    exact this
  · have := all_ok (P := P) (w := w) (base := base) t hT W n il d hd
    rw [hps] at this
    exact this.imp (sp_law pure)
end
end Ev

end
section
set_option linter.all false
set_option maxHeartbeats 4000000
/-! Rules that run the evaluator on symbols. -/
namespace Ev
open PySem
theorem ite_b {α : Type} {t : Bool} {a b : α} : (match t with
    | true => a
    | false => b) = if t = true then a else b := by cases t <;> rfl
@[simp] theorem bind_ok' {α β : Type} (a : α) (r : Env) (f : α → Env → Res β) : (Res.ok a r).bind f = f a r := rfl
@[simp] theorem bind_stuck' {α β : Type} (f : α → Env → Res β) : (Res.stuck : Res α).bind f = .stuck := rfl
@[simp] theorem bind_ite {α β : Type} {c : Prop} [Decidable c] (a b : Res α) (f : α → Env → Res β) : (if c then a else b).bind f = if c then a.bind f else b.bind f := by split <;> rfl
@[simp] theorem of_some' {α : Type} (a : α) (r : Env) : Res.of (some a) r = .ok a r := rfl
@[simp] theorem of_none' {α : Type} (r : Env) : Res.of (none : Option α) r = .stuck := rfl
@[simp] theorem of_ite {α : Type} {c : Prop} [Decidable c] (a b : Option α) (r : Env) : Res.of (if c then a else b) r = if c then .of a r else .of b r := by split <;> rfl
def slD : Option Sl → Option D
  | some (.val d) => some d
  | some (.own d) => some d
  | some (.bor d) => some d
  | _ => none
@[simp] theorem slD_val (d : D) : slD (some (.val d)) = some d := rfl
@[simp] theorem slD_own (d : D) : slD (some (.own d)) = some d := rfl
@[simp] theorem slD_bor (d : D) : slD (some (.bor d)) = some d := rfl
@[simp] theorem deref_d (r : Env) (v : D) : deref r (.d v) = some v := rfl
@[simp] theorem deref_f (r : Env) (v : D) : deref r (.f v) = some v := rfl
@[simp] theorem deref_s (r : Env) (i : Nat) : deref r (.s i) = slD r[i]? := rfl
def truS : Option D → Env → Res Bool
  | some u, r => .of (truth u) r
  | none, _ => .stuck
def tru (x : TV) (r : Env) : Res Bool := truS (deref r x) r
@[simp] theorem tru_eq (x : TV) (r : Env) : tru x r = truS (deref r x) r := rfl
@[simp] theorem truS_some (u : D) (r : Env) : truS (some u) r = .of (truth u) r := rfl
@[simp] theorem truth_bool (b : Bool) : truth (.bool b) = some b := rfl
@[simp] theorem truth_int (i : Int) : truth (.int i) = some (i != 0) := rfl
@[simp] theorem truth_list (l : List D) : truth (.list l) = some (!l.isEmpty) := rfl
@[simp] theorem truth_tuple (l : List D) : truth (.tuple l) = some (!l.isEmpty) := rfl
def un1S (f : D → Option TV) : Option D → Env → Res TV
  | some u, r => .of (f u) r
  | none, _ => .stuck
def bi2S (f : D → D → Option TV) : Option D → Option D → Env → Res TV
  | some u, some v, r => .of (f u v) r
  | _, _, _ => .stuck
@[simp] theorem un1S_some (f : D → Option TV) (u : D) (r : Env) : un1S f (some u) r = .of (f u) r := rfl
@[simp] theorem bi2S_some (f : D → D → Option TV) (u v : D) (r : Env) : bi2S f (some u) (some v) r = .of (f u v) r := rfl
def andK (x : TV) (r : Env) (k : Env → Res TV) : Res TV := match x with
  | .d (.bool true) => k r
  | .d (.bool false) => .ok (.d (.bool false)) r
  | _ => .stuck
def orK (x : TV) (r : Env) (k : Env → Res TV) : Res TV := match x with
  | .d (.bool true) => .ok (.d (.bool true)) r
  | .d (.bool false) => k r
  | _ => .stuck
@[simp] theorem andK_b (b : Bool) (r : Env) (k : Env → Res TV) : andK (.d (.bool b)) r k = if b = true then k r else .ok (.d (.bool false)) r := by cases b <;> rfl
@[simp] theorem orK_b (b : Bool) (r : Env) (k : Env → Res TV) : orK (.d (.bool b)) r k = if b = true then .ok (.d (.bool true)) r else k r := by cases b <;> rfl
def negK (x : TV) (r : Env) : Res TV := match x with
  | .d (.int i) => .ok (.d (.int (-i))) r
  | _ => .stuck
@[simp] theorem negK_i (i : Int) (r : Env) : negK (.d (.int i)) r = .ok (.d (.int (-i))) r := rfl
def varK : Option Sl → Nat → Env → Res TV
  | some (.val d), _, r => .ok (.d d) r
  | some (.own _), i, r => .ok (.s i) r
  | some (.bor _), i, r => .ok (.s i) r
  | _, _, _ => .stuck
@[simp] theorem varK_val (d : D) (i : Nat) (r : Env) : varK (some (.val d)) i r = .ok (.d d) r := rfl
@[simp] theorem varK_own (d : D) (i : Nat) (r : Env) : varK (some (.own d)) i r = .ok (.s i) r := rfl
@[simp] theorem varK_bor (d : D) (i : Nat) (r : Env) : varK (some (.bor d)) i r = .ok (.s i) r := rfl
def solS : Option Sl → Nat → Env → Res D
  | some (.val d), _, r => .ok d r
  | some (.own d), i, r => .ok d (r.set i (.val d))
  | _, _, _ => .stuck
@[simp] theorem solS_val (d : D) (i : Nat) (r : Env) : solS (some (.val d)) i r = .ok d r := rfl
@[simp] theorem solS_own (d : D) (i : Nat) (r : Env) : solS (some (.own d)) i r = .ok d (r.set i (.val d)) := rfl
@[simp] theorem sol_d (r : Env) (v : D) : solidR r (.d v) = .ok v r := rfl
@[simp] theorem sol_f (r : Env) (v : D) : solidR r (.f v) = .ok v r := rfl
@[simp] theorem sol_s (r : Env) (i : Nat) : solidR r (.s i) = solS r[i]? i r := by
  unfold solidR solid
  dsimp only
  generalize r[i]? = o
  cases o with
  | none => rfl
  | some s => cases s <;> rfl
def muS : Option Sl → Option D
  | some (.own d) => some d
  | some (.bor d) => some d
  | _ => none
@[simp] theorem muS_own (d : D) : muS (some (.own d)) = some d := rfl
@[simp] theorem muS_bor (d : D) : muS (some (.bor d)) = some d := rfl
@[simp] theorem mutAt_eq (r : Env) (i : Nat) : mutAt r i = muS r[i]? := by
  unfold mutAt
  cases h : r[i]? with
  | none => rfl
  | some s => cases s <;> rfl
/-! operators -/
section
variable (i j : Int) (x y : Str) (k l : List D) (a b : D)
@[simp] theorem bop_add : bop .add (.int i) (.int j) = some (.d (.int (i + j))) := rfl
@[simp] theorem bop_sub : bop .sub (.int i) (.int j) = some (.d (.int (i - j))) := rfl
@[simp] theorem bop_mul : bop .mul (.int i) (.int j) = if mulOk i j = true then some (.d (.int (i * j))) else none := rfl
@[simp] theorem bop_div : bop .div (.int i) (.int j) = if 0 < j ∧ j < 1073741824 then some (.d (.int (i / j))) else none := rfl
@[simp] theorem bop_mod : bop .mod (.int i) (.int j) = if 0 < j then some (.d (.int (i % j))) else none := rfl
@[simp] theorem bop_tup : bop .add (.tuple k) (.tuple l) = if k.length + l.length ≤ SZ then some (.d (.tuple (k ++ l))) else none := rfl
@[simp] theorem bop_lst : bop .add (.list k) (.list l) = if k.length + l.length ≤ SZ then some (.f (.list (k ++ l))) else none := rfl
@[simp] theorem cop_lt : cop .lt (.int i) (.int j) = some (decide (i < j)) := rfl
@[simp] theorem cop_le : cop .le (.int i) (.int j) = some (decide (i ≤ j)) := rfl
@[simp] theorem cop_gt : cop .gt (.int i) (.int j) = some (decide (j < i)) := rfl
@[simp] theorem cop_ge : cop .ge (.int i) (.int j) = some (decide (j ≤ i)) := rfl
@[simp] theorem cop_eqi : cop .eq (.int i) (.int j) = some (decide (i = j)) := by
  show (if eqOk (.int i) (.int j) = true then some (PyData.eqv (.int i) (.int j)) else none) = _
  refine (if_pos rfl).trans ?_
  simp [PyData.eqv]
  try rfl
@[simp] theorem cop_eqs : cop .eq (.str x) (.str y) = some (decide (x = y)) := by
  show (if eqOk (.str x) (.str y) = true then some (PyData.eqv (.str x) (.str y)) else none) = _
  refine (if_pos rfl).trans ?_
  simp [PyData.eqv]
  try rfl
@[simp] theorem cop_nei : cop .ne (.int i) (.int j) = some (!decide (i = j)) := by
  show (if eqOk (.int i) (.int j) = true then some (!PyData.eqv (.int i) (.int j)) else none) = _
  refine (if_pos rfl).trans ?_
  simp [PyData.eqv]
  try rfl
@[simp] theorem cop_nes : cop .ne (.str x) (.str y) = some (!decide (x = y)) := by
  show (if eqOk (.str x) (.str y) = true then some (!PyData.eqv (.str x) (.str y)) else none) = _
  refine (if_pos rfl).trans ?_
  simp [PyData.eqv]
  try rfl
@[simp] theorem cop_is (u v : D) : cop .is u v = isOf u v := by cases u <;> cases v <;> rfl
@[simp] theorem cop_isNot (u v : D) : cop .isNot u v = (isOf u v).map (!·) := by cases u <;> cases v <;> rfl
@[simp] theorem cop_in (u v : D) : cop .inn u v = inOf u v := by cases u <;> cases v <;> rfl
@[simp] theorem is_bb (p q : Bool) : isOf (.bool p) (.bool q) = some (p == q) := rfl
end
/-! expressions -/
section
variable (call : Nat → List Sl → CR) (r : Env)
@[simp] theorem e_none : (ev call (.cst .none)).1 r = .ok (.d .none) r := rfl
@[simp] theorem e_bool (b : Bool) : (ev call (.cst (.bool b))).1 r = .ok (.d (.bool b)) r := rfl
@[simp] theorem e_int (i : Int) : (ev call (.cst (.int i))).1 r = .ok (.d (.int i)) r := rfl
@[simp] theorem e_str (x : Str) : (ev call (.cst (.str x))).1 r = .ok (.d (.str x)) r := rfl
@[simp] theorem e_var (i : Nat) : (ev call (.var i)).1 r = varK r[i]? i r := by
  show (match r[i]? with
    | some (.val d) => Res.ok (TV.d d) r
    | some (.own _) => .ok (.s i) r
    | some (.bor _) => .ok (.s i) r
    | _ => .stuck) = _
  cases h : r[i]? with
  | none => rfl
  | some s => cases s <;> rfl
@[simp] theorem e_glob (x : Str) (d : D) : (ev call (.glob x d)).1 r = .ok (.d d) r := rfl
@[simp] theorem e_bin (o : Bo) (a b : IE) : (ev call (.bin o a b)).1 r = ((ev call a).1 r).bind fun x r1 => ((ev call b).1 r1).bind fun y r2 => bi2S (bop o) (deref r2 x) (deref r2 y) r2 := by
  show Res.bind _ _ = _
  congr; funext x r1; congr; funext y r2
  cases deref r2 x <;> cases deref r2 y <;> rfl
@[simp] theorem e_neg (a : IE) : (ev call (.neg a)).1 r = ((ev call a).1 r).bind negK := rfl
@[simp] theorem e_cmp (o : Co) (a b : IE) : (ev call (.cmp o a b)).1 r = ((ev call a).1 r).bind fun x r1 => ((ev call b).1 r1).bind fun y r2 => bi2S (fun u v => (cop o u v).map fun t => .d (.bool t)) (deref r2 x) (deref r2 y) r2 := by
  show Res.bind _ _ = _
  congr; funext x r1; congr; funext y r2
  cases deref r2 x <;> cases deref r2 y <;> rfl
def chnS (o : Co) : Option D → Option D → Env → (Env → Res TV) → Res TV
  | some u, some v, r, k => match cop o u v with
    | some true => k r
    | some false => .ok (.d (.bool false)) r
    | none => .stuck
  | _, _, _, _ => .stuck
@[simp] theorem chnS_some (o : Co) (u v : D) (b : Bool) (k : Env → Res TV) (h : cop o u v = some b) : chnS o (some u) (some v) r k = if b = true then k r else .ok (.d (.bool false)) r := by
  show (match cop o u v with | some true => k r | some false => .ok (.d (.bool false)) r | none => .stuck) = _
  rw [h]
  cases b <;> rfl
@[simp] theorem e_chn (o p : Co) (a b c : IE) : (ev call (.chn o p a b c)).1 r = ((ev call a).1 r).bind fun x r1 => ((ev call b).1 r1).bind fun y r2 => chnS o (deref r2 x) (deref r2 y) r2 fun r2 => ((ev call c).1 r2).bind fun z r3 => bi2S (fun u v => (cop p u v).map fun t => .d (.bool t)) (deref r3 y) (deref r3 z) r3 := by
  show Res.bind _ _ = _
  congr; funext x r1; congr; funext y r2
  cases h1 : deref r2 x with
  | none => cases deref r2 y <;> rfl
  | some u =>
    cases h2 : deref r2 y with
    | none => rfl
    | some v =>
      show (match cop o u v with | some true => _ | some false => _ | none => _) = (match cop o u v with | some true => _ | some false => _ | none => _)
      cases cop o u v with
      | none => rfl
      | some b =>
        cases b with
        | false => rfl
        | true =>
          show Res.bind _ _ = Res.bind _ _
          congr; funext z r3
          cases deref r3 y <;> cases deref r3 z <;> rfl
@[simp] theorem e_not (a : IE) : (ev call (.not a)).1 r = (((ev call a).1 r).bind tru).bind fun t r1 => .ok (.d (.bool (!t))) r1 := by
  show Res.bind (Res.bind _ _) _ = _
  congr; funext x r1
  show (match deref r1 x with | some u => Res.of (truth u) r1 | none => .stuck) = truS (deref r1 x) r1
  cases deref r1 x <;> rfl
@[simp] theorem e_and (a b : IE) : (ev call (.and a b)).1 r = ((ev call a).1 r).bind fun x r1 => andK x r1 (ev call b).1 := rfl
@[simp] theorem e_or (a b : IE) : (ev call (.or a b)).1 r = ((ev call a).1 r).bind fun x r1 => orK x r1 (ev call b).1 := rfl
@[simp] theorem e_ife (c a b : IE) : (ev call (.ife c a b)).1 r = ((ev call c).2 r).bind fun t r1 => if t = true then (ev call a).1 r1 else (ev call b).1 r1 := by
  show Res.bind _ _ = _
  congr; funext t r1; cases t <;> rfl
@[simp] theorem e_tup (l : IA) : (ev call (.tup l)).1 r = (evA call l r).bind fun xs r1 => if xs.length ≤ SZ then .ok (.d (.tuple xs)) r1 else .stuck := rfl
@[simp] theorem e_lst (l : IA) : (ev call (.lst l)).1 r = (evA call l r).bind fun xs r1 => if xs.length ≤ SZ then .ok (.f (.list xs)) r1 else .stuck := rfl
@[simp] theorem e_idx (a b : IE) : (ev call (.idx a b)).1 r = ((ev call a).1 r).bind fun x r1 => ((ev call b).1 r1).bind fun y r2 => bi2S (fun u v => (idx u v).map .d) (deref r2 x) (deref r2 y) r2 := by
  show Res.bind _ _ = _
  congr; funext x r1; congr; funext y r2
  cases deref r2 x <;> cases deref r2 y <;> rfl
@[simp] theorem e_isi (a : IE) (t : Ty) : (ev call (.isi a t)).1 r = ((ev call a).1 r).bind fun x r1 => un1S (fun u => if notDict u = true then some (.d (.bool (isTy t u))) else none) (deref r1 x) r1 := by
  show Res.bind _ _ = _
  congr; funext x r1
  cases deref r1 x with
  | none => rfl
  | some u =>
    show (if notDict u = true then Res.ok (TV.d (.bool (isTy t u))) r1 else .stuck) = Res.of (if notDict u = true then _ else _) r1
    split <;> rfl
@[simp] theorem e_bl1 (b : B1) (a : IE) : (ev call (.bl1 b a)).1 r = ((ev call a).1 r).bind fun x r1 => un1S (b1 b) (deref r1 x) r1 := by
  show Res.bind _ _ = _
  congr; funext x r1
  cases deref r1 x <;> rfl
@[simp] theorem e_un (u : U1) (a : IE) : (ev call (.un u a)).1 r = ((ev call a).1 r).bind fun x r1 => un1S (u1 u) (deref r1 x) r1 := by
  show Res.bind _ _ = _
  congr; funext x r1
  cases deref r1 x <;> rfl
@[simp] theorem e_bl2 (b : B2) (a c : IE) : (ev call (.bl2 b a c)).1 r = ((ev call a).1 r).bind fun x r1 => ((ev call c).1 r1).bind fun y r2 => bi2S (fun u v => (b2 b u v).map .d) (deref r2 x) (deref r2 y) r2 := by
  show Res.bind _ _ = _
  congr; funext x r1; congr; funext y r2
  cases deref r2 x <;> cases deref r2 y <;> rfl
/-- behind a call -/
def callK : CR → List Nat → Env → Res TV
  | .ok fr v outs, L, r => match outsE L outs r with
    | some r' => .ok (if fr then .f v else .d v) r'
    | none => .stuck
  | .exc c d, L, r => if L = [] then .exc c d r else .stuck
  | .stuck, _, _ => .stuck
@[simp] theorem callK_v (v : D) : callK (.ok false v []) [] r = .ok (.d v) r := rfl
@[simp] theorem callK_f (v : D) : callK (.ok true v []) [] r = .ok (.f v) r := rfl
@[simp] theorem callK_v1 (v d : D) (i : Nat) : callK (.ok false v [d]) [i] r = .ok (.d v) (setAt r i d) := rfl
@[simp] theorem callK_f1 (v d : D) (i : Nat) : callK (.ok true v [d]) [i] r = .ok (.f v) (setAt r i d) := rfl
@[simp] theorem callK_v2 (v d e : D) (i j : Nat) : callK (.ok false v [d, e]) [i, j] r = .ok (.d v) (setAt (setAt r i d) j e) := rfl
def argK (o : Option (List Sl)) (L : List Nat) (f : Nat) (r : Env) : Res TV := match o with
  | some ss => if L.Nodup then callK (call f ss) L r else .stuck
  | none => .stuck
@[simp] theorem argK_some (ss : List Sl) (L : List Nat) (f : Nat) : argK call (some ss) L f r = if L.Nodup then callK (call f ss) L r else .stuck := rfl
theorem doCall_eq (f : Nat) (as : List Ar) : doCall call f as r = argK call (argsS r as) (lends as) f r := by
  unfold doCall argK
  cases argsS r as with
  | none => rfl
  | some ss =>
    show (if (lends as).Nodup then _ else _) = (if (lends as).Nodup then _ else _)
    split
    · cases call f ss <;> rfl
    · rfl
@[simp] theorem e_call (f : Nat) (x : Str) (l : IA) : (ev call (.call f x l)).1 r = (evR call l r).bind fun as r1 => argK call (argsS r1 as) (lends as) f r1 := by
  show Res.bind _ _ = _
  congr; funext as r1
  exact doCall_eq call r1 f as
@[simp] theorem argsS_nil : argsS r [] = some [] := rfl
@[simp] theorem argsS_v (d : D) (l : List Ar) : argsS r (.v d :: l) = (argsS r l).map (.val d :: ·) := rfl
@[simp] theorem argsS_l (i : Nat) (l : List Ar) : argsS r (.l i :: l) = ((mutAt r i).map Sl.bor).bind fun s => (argsS r l).map (s :: ·) := rfl
@[simp] theorem lends_nil : lends [] = [] := rfl
@[simp] theorem lends_v (d : D) (l : List Ar) : lends (.v d :: l) = lends l := rfl
@[simp] theorem lends_l (i : Nat) (l : List Ar) : lends (.l i :: l) = i :: lends l := rfl
@[simp] theorem a_nil : evA call .nil r = .ok [] r := rfl
@[simp] theorem a_cons (a : IE) (l : IA) : evA call (.cons a l) r = ((ev call a).1 r).bind fun x r1 => (solidR r1 x).bind fun v r2 => (evA call l r2).bind fun vs r3 => .ok (v :: vs) r3 := rfl
@[simp] theorem r_nil : evR call .nil r = .ok [] r := rfl
@[simp] theorem r_cons (a : IE) (l : IA) : evR call (.cons a l) r = ((ev call a).1 r).bind fun x r1 => (solidR r1 x).bind fun v r2 => (evR call l r2).bind fun vs r3 => .ok (.v v :: vs) r3 := rfl
def lendK : Option D → Env → (Env → Res (List Ar)) → Res (List Ar)
  | some _, r, k => k r
  | none, _, _ => .stuck
@[simp] theorem lendK_some (d : D) (k : Env → Res (List Ar)) : lendK (some d) r k = k r := rfl
@[simp] theorem r_lend (i : Nat) (l : IA) : evR call (.lend i l) r = lendK (mutAt r i) r fun r => (evR call l r).bind fun vs r1 => .ok (.l i :: vs) r1 := by
  show (match mutAt r i with | some _ => _ | none => _) = _
  cases mutAt r i <;> rfl
@[simp] theorem o_no : evO call .no r = .ok none r := rfl
def derK : Option D → Env → Res (Option D)
  | some u, r => .ok (some u) r
  | none, _ => .stuck
@[simp] theorem derK_some (u : D) : derK (some u) r = .ok (some u) r := rfl
@[simp] theorem o_yes (a : IE) : evO call (.yes a) r = ((ev call a).1 r).bind fun x r1 => derK (deref r1 x) r1 := by
  show Res.bind _ _ = _
  congr; funext x r1
  cases deref r1 x <;> rfl
@[simp] theorem t_no : evT call .no r = .ok true r := rfl
@[simp] theorem t_yes (a : IE) : evT call (.yes a) r = (ev call a).2 r := rfl
@[simp] theorem i_val (a : IE) : evI call (.val a) r = ((ev call a).1 r).bind fun x r1 => (solidR r1 x).bind fun v r2 => .of (itemsOf v) r2 := rfl
def slS : Option D → Option (Option Int) → Option (Option Int) → Env → Res TV
  | some u, some l, some h, r => .of (slice l h u) r
  | _, _, _, _ => .stuck
@[simp] theorem slS_some (u : D) (l h : Option Int) : slS (some u) (some l) (some h) r = .of (slice l h u) r := rfl
@[simp] theorem e_slc (a : IE) (lo hi : IO) : (ev call (.slc a lo hi)).1 r = ((ev call a).1 r).bind fun x r1 => (evO call lo r1).bind fun l r2 => (evO call hi r2).bind fun h r3 => slS (deref r3 x) (optI l) (optI h) r3 := by
  show Res.bind _ _ = _
  congr; funext x r1; congr; funext l r2; congr; funext h r3
  generalize deref r3 x = o1
  generalize optI l = o2
  generalize optI h = o3
  cases o1 <;> cases o2 <;> cases o3 <;> rfl
@[simp] theorem opt_none : optI none = some none := rfl
@[simp] theorem opt_int (i : Int) : optI (some (.int i)) = some (some i) := rfl
@[simp] theorem slice_list (lo hi : Option Int) (xs : List D) : slice lo hi (.list xs) = some (.f (.list (cut xs lo hi))) := rfl
@[simp] theorem slice_tup (lo hi : Option Int) (xs : List D) : slice lo hi (.tuple xs) = some (.d (.tuple (cut xs lo hi))) := rfl
theorem cut_take {α : Type} (xs : List α) (n : Nat) (h : n ≤ xs.length) : cut xs none (some (n : Int)) = xs.take n := by
  have h1 : ¬ (n : Int) < 0 := by omega
  have h2 : min n xs.length = n := by omega
  simp [cut, sIx, h1, h2]
@[simp] theorem e_dsp (ks : List Const) (l : IA) : (ev call (.dsp ks l)).1 r = (evA call l r).bind fun vs r1 => .of ((dispD ks vs).map fun ps => .f (.dict ps)) r1 := by
  show Res.bind _ _ = _
  congr; funext vs r1
  cases dispD ks vs <;> rfl
def dicS : Option D → Env → (Env → Res TV) → Res TV
  | some u, r, k => if isDict u = true then k r else .stuck
  | none, _, _ => .stuck
@[simp] theorem dicS_some (u : D) (k : Env → Res TV) : dicS (some u) r k = if isDict u = true then k r else .stuck := rfl
theorem dic_eq (x : TV) (r : Env) (k : Env → Res TV) : ((dictR r x).bind fun _ r1 => k r1) = dicS (deref r x) r k := by
  unfold dictR
  cases deref r x with
  | none => rfl
  | some u =>
    show Res.bind (if isDict u = true then _ else _) _ = if isDict u = true then _ else _
    split <;> rfl
@[simp] theorem e_mg2 (o k d : IE) : (ev call (.mg2 o k d)).1 r = ((ev call o).1 r).bind fun x r1 => dicS (deref r1 x) r1 fun r1 => ((ev call k).1 r1).bind fun y r2 => ((ev call d).1 r2).bind fun z r3 => (solidR r3 z).bind fun w r4 =>
      bi2S (fun u v => (getD1 u v).map fun t => .d (t.getD w)) (deref r4 x) (deref r4 y) r4 := by
  show Res.bind _ _ = _
  congr; funext x r1
  rw [← dic_eq]
  congr; funext _ r1; congr; funext y r2; congr; funext z r3; congr; funext w r4
  cases deref r4 x <;> cases deref r4 y <;> rfl
def rgK : Option D → Env → Res (List D)
  | some (.int j), r => if small62 j = true then .ok (rng 0 j.toNat) r else .stuck
  | _, _ => .stuck
@[simp] theorem rgK_i (j : Int) : rgK (some (.int j)) r = if small62 j = true then .ok (rng 0 j.toNat) r else .stuck := rfl
@[simp] theorem i_rg1 (a : IE) : evI call (.rg1 a) r = ((ev call a).1 r).bind fun x r1 => rgK (deref r1 x) r1 := by
  show Res.bind _ _ = _
  congr; funext x r1
  generalize deref r1 x = o
  cases o with
  | none => rfl
  | some u => cases u <;> rfl
def rgK2 : Option D → Option D → Env → Res (List D)
  | some (.int i), some (.int j), r => if (small62 i && small62 j) = true then .ok (rng i (j - i).toNat) r else .stuck
  | _, _, _ => .stuck
@[simp] theorem rgK2_i (i j : Int) : rgK2 (some (.int i)) (some (.int j)) r = if (small62 i && small62 j) = true then .ok (rng i (j - i).toNat) r else .stuck := rfl
@[simp] theorem i_rg2 (a b : IE) : evI call (.rg2 a b) r = ((ev call a).1 r).bind fun x r1 => ((ev call b).1 r1).bind fun y r2 => rgK2 (deref r2 x) (deref r2 y) r2 := by
  show Res.bind _ _ = _
  congr; funext x r1; congr; funext y r2
  generalize deref r2 x = o
  generalize deref r2 y = o2
  cases o with
  | none => rfl
  | some u =>
    cases o2 with
    | none => cases u <;> rfl
    | some v => cases u <;> cases v <;> rfl
def enK : Option (List D) → Env → Res (List D)
  | some xs, r => .ok (enumD 0 xs) r
  | none, _ => .stuck
@[simp] theorem enK_some (xs : List D) : enK (some xs) r = .ok (enumD 0 xs) r := rfl
@[simp] theorem i_enm (a : IE) : evI call (.enm a) r = ((ev call a).1 r).bind fun x r1 => (solidR r1 x).bind fun v r2 => enK (listOf v) r2 := by
  show Res.bind _ _ = _
  congr; funext x r1; congr; funext v r2
  cases v <;> rfl
def zpK : Option (List D) → Option (List D) → Env → Res (List D)
  | some xs, some ys, r => .ok (zipD xs ys) r
  | _, _, _ => .stuck
@[simp] theorem zpK_some (xs ys : List D) : zpK (some xs) (some ys) r = .ok (zipD xs ys) r := rfl
@[simp] theorem i_zip (a b : IE) : evI call (.zip a b) r = ((ev call a).1 r).bind fun x r1 => (solidR r1 x).bind fun v r2 => ((ev call b).1 r2).bind fun y r3 => (solidR r3 y).bind fun w r4 => zpK (listOf v) (listOf w) r4 := by
  show Res.bind _ _ = _
  congr; funext x r1; congr; funext v r2; congr; funext y r3; congr; funext w r4
  cases v <;> cases w <;> rfl
/-! tests -/
theorem t_eq {f : Env → Res TV} : (tst f).2 r = (f r).bind tru := by
  show Res.bind _ _ = _
  congr; funext x r1
  show (match deref r1 x with | some u => Res.of (truth u) r1 | none => .stuck) = truS (deref r1 x) r1
  cases deref r1 x <;> rfl
@[simp] theorem c_cst (d : Const) : (ev call (.cst d)).2 r = ((ev call (.cst d)).1 r).bind tru := t_eq r
@[simp] theorem c_var (i : Nat) : (ev call (.var i)).2 r = ((ev call (.var i)).1 r).bind tru := t_eq r
@[simp] theorem c_cmp (o : Co) (a b : IE) : (ev call (.cmp o a b)).2 r = ((ev call (.cmp o a b)).1 r).bind tru := t_eq r
@[simp] theorem c_chn (o p : Co) (a b c : IE) : (ev call (.chn o p a b c)).2 r = ((ev call (.chn o p a b c)).1 r).bind tru := t_eq r
@[simp] theorem c_isi (a : IE) (t : Ty) : (ev call (.isi a t)).2 r = ((ev call (.isi a t)).1 r).bind tru := t_eq r
@[simp] theorem c_call (f : Nat) (x : Str) (l : IA) : (ev call (.call f x l)).2 r = ((ev call (.call f x l)).1 r).bind tru := t_eq r
@[simp] theorem c_bl1 (b : B1) (a : IE) : (ev call (.bl1 b a)).2 r = ((ev call (.bl1 b a)).1 r).bind tru := t_eq r
@[simp] theorem c_not (a : IE) : (ev call (.not a)).2 r = ((ev call a).2 r).bind fun t r1 => .ok (!t) r1 := rfl
@[simp] theorem c_and (a b : IE) : (ev call (.and a b)).2 r = ((ev call a).2 r).bind fun t r1 => if t = true then (ev call b).2 r1 else .ok false r1 := by
  show Res.bind _ _ = _
  congr; funext t r1; cases t <;> rfl
@[simp] theorem c_or (a b : IE) : (ev call (.or a b)).2 r = ((ev call a).2 r).bind fun t r1 => if t = true then .ok true r1 else (ev call b).2 r1 := by
  show Res.bind _ _ = _
  congr; funext t r1; cases t <;> rfl
@[simp] theorem c_ife (c a b : IE) : (ev call (.ife c a b)).2 r = ((ev call c).2 r).bind fun t r1 => if t = true then (ev call a).2 r1 else (ev call b).2 r1 := by
  show Res.bind _ _ = _
  congr; funext t r1; cases t <;> rfl
/-! statements -/
variable (W : Nat)
def seqK (m : Res Fl) (k : Env → Res Fl) : Res Fl := match m with
  | .ok .nx r1 => k r1
  | o => o
@[simp] theorem seqK_nx (k : Env → Res Fl) : seqK (.ok .nx r) k = k r := rfl
@[simp] theorem seqK_brk (k : Env → Res Fl) : seqK (.ok .brk r) k = .ok .brk r := rfl
@[simp] theorem seqK_cnt (k : Env → Res Fl) : seqK (.ok .cnt r) k = .ok .cnt r := rfl
@[simp] theorem seqK_ret (b : Bool) (v : D) (k : Env → Res Fl) : seqK (.ok (.ret b v) r) k = .ok (.ret b v) r := rfl
@[simp] theorem seqK_exc (c : Str) (v : D) (k : Env → Res Fl) : seqK (.exc c v r) k = .exc c v r := rfl
@[simp] theorem seqK_stuck (k : Env → Res Fl) : seqK .stuck k = .stuck := rfl
@[simp] theorem seqK_ite {c : Prop} [Decidable c] (a b : Res Fl) (k : Env → Res Fl) : seqK (if c then a else b) k = if c then seqK a k else seqK b k := by split <;> rfl
@[simp] theorem b_nil : evB call W .nil r = .ok .nx r := rfl
@[simp] theorem b_cons (a : IS) (l : IB) : evB call W (.cons a l) r = seqK (evS call W a r) (evB call W l) := rfl
def retK : TV → Env → Res Fl
  | .d v, r => .ok (.ret false v) r
  | .f v, r => .ok (.ret true v) r
  | .s i, r => match r[i]? with
    | some (.own d) => .ok (.ret true d) r
    | _ => .stuck
@[simp] theorem retK_d (v : D) : retK (.d v) r = .ok (.ret false v) r := rfl
@[simp] theorem retK_f (v : D) : retK (.f v) r = .ok (.ret true v) r := rfl
@[simp] theorem s_ret (e : IE) : evS call W (.ret e) r = ((ev call e).1 r).bind retK := by
  show Res.bind _ _ = _
  congr; funext x r1
  cases x <;> rfl
@[simp] theorem s_retN : evS call W .retN r = .ok (.ret false .none) r := rfl
@[simp] theorem s_asg (t : IT) (e : IE) : evS call W (.asg t e) r = ((ev call e).1 r).bind fun x r1 => (asn t x r1).bind fun _ r2 => .ok .nx r2 := rfl
@[simp] theorem s_ex (e : IE) : evS call W (.ex e) r = ((ev call e).1 r).bind fun _ r1 => .ok .nx r1 := rfl
@[simp] theorem s_if (c : IE) (a b : IB) : evS call W (.ifs c a b) r = ((ev call c).2 r).bind fun t r1 => if t = true then evB call W a r1 else evB call W b r1 := by
  show Res.bind _ _ = _
  congr; funext t r1; cases t <;> rfl
@[simp] theorem s_for (t : IT) (it : II) (a : IB) : evS call W (.fr t it a) r = (evI call it r).bind fun xs r1 => forL (fun x r2 => (asn t (.d x) r2).bind fun _ r3 => evB call W a r3) xs r1 := rfl
@[simp] theorem s_whl (c : IE) (a : IB) : evS call W (.whl c a) r = whileN (fun r => (ev call c).2 r) (fun r => evB call W a r) W r := rfl
@[simp] theorem s_pas : evS call W .pas r = .ok .nx r := rfl
@[simp] theorem s_rse (c : Str) : evS call W (.rse c) r = .exc c .none r := rfl
def stoK : Option Sl → Sl → Nat → Env → Res Unit
  | some (.bor _), _, _, _ => .stuck
  | none, _, _, _ => .stuck
  | some _, s, i, r => .ok () (r.set i s)
@[simp] theorem stoK_un (s : Sl) (i : Nat) : stoK (some .un) s i r = .ok () (r.set i s) := rfl
@[simp] theorem stoK_val (d : D) (s : Sl) (i : Nat) : stoK (some (.val d)) s i r = .ok () (r.set i s) := rfl
@[simp] theorem stoK_own (d : D) (s : Sl) (i : Nat) : stoK (some (.own d)) s i r = .ok () (r.set i s) := rfl
@[simp] theorem asn_d (i : Nat) (d : D) : asn (.n i false) (.d d) r = stoK r[i]? (.val d) i r := by
  show asn1 i false (.d d) r = _
  unfold asn1
  cases h : r[i]? with
  | none => rfl
  | some s => cases s <;> rfl
@[simp] theorem asn_f (i : Nat) (d : D) : asn (.n i false) (.f d) r = stoK r[i]? (.val d) i r := by
  show asn1 i false (.f d) r = _
  unfold asn1
  cases h : r[i]? with
  | none => rfl
  | some s => cases s <;> rfl
@[simp] theorem asn_fo (i : Nat) (d : D) : asn (.n i true) (.f d) r = stoK r[i]? (.own d) i r := by
  show asn1 i true (.f d) r = _
  unfold asn1
  cases h : r[i]? with
  | none => rfl
  | some s => cases s <;> rfl
@[simp] theorem asn_t (l : List IT) (xs : List D) : asn (.t l) (.d (.tuple xs)) r = asnL l xs r := rfl
@[simp] theorem asnL_nil : asnL [] [] r = .ok () r := rfl
@[simp] theorem asnL_cons (t : IT) (ts : List IT) (x : D) (xs : List D) : asnL (t :: ts) (x :: xs) r = (asn t (.d x) r).bind fun _ r' => asnL ts xs r' := rfl
@[simp] theorem asnP_nil : asnP [] [] r = .ok () r := rfl
@[simp] theorem asnP_cons (t : IT) (ts : List IT) (x : TV) (xs : List TV) : asnP (t :: ts) (x :: xs) r = (asn t x r).bind fun _ r' => asnP ts xs r' := rfl
@[simp] theorem s_asp (ts : List IT) (l : IA) : evS call W (.asp ts l) r = (evF call l r).bind fun xs r1 => if xs.length ≤ SZ then (asnP ts xs r1).bind fun _ r2 => .ok .nx r2 else .stuck := rfl
def fK (x : TV) (r : Env) (k : TV → Env → Res (List TV)) : Res (List TV) := match x with
  | .f v => k (.f v) r
  | x => (solidR r x).bind fun v r2 => k (.d v) r2
@[simp] theorem fK_f (v : D) (k : TV → Env → Res (List TV)) : fK (.f v) r k = k (.f v) r := rfl
@[simp] theorem fK_d (v : D) (k : TV → Env → Res (List TV)) : fK (.d v) r k = k (.d v) r := rfl
@[simp] theorem fK_s (i : Nat) (k : TV → Env → Res (List TV)) : fK (.s i) r k = (solS r[i]? i r).bind fun v r2 => k (.d v) r2 := by
  show (solidR r (.s i)).bind _ = _
  rw [sol_s]
@[simp] theorem f_nil : evF call .nil r = .ok [] r := rfl
@[simp] theorem f_cons (a : IE) (l : IA) : evF call (.cons a l) r = ((ev call a).1 r).bind fun x r1 => fK x r1 fun y r2 => (evF call l r2).bind fun vs r3 => .ok (y :: vs) r3 := by
  show Res.bind _ _ = _
  congr
def lendF : Option D → Env → (Env → Res Fl) → Res Fl
  | some _, r, k => k r
  | none, _, _ => .stuck
@[simp] theorem lendF_some (d : D) (k : Env → Res Fl) : lendF (some d) r k = k r := rfl
def setS : Option Sl → Env → Nat → D → Env
  | some (.own _), r, i, d => r.set i (.own d)
  | some (.bor _), r, i, d => r.set i (.bor d)
  | _, r, _, _ => r
@[simp] theorem setS_own (e d : D) (i : Nat) : setS (some (.own e)) r i d = r.set i (.own d) := rfl
@[simp] theorem setS_bor (e d : D) (i : Nat) : setS (some (.bor e)) r i d = r.set i (.bor d) := rfl
@[simp] theorem setAt_eq (i : Nat) (d : D) : setAt r i d = setS r[i]? r i d := by
  unfold setAt
  generalize r[i]? = o
  cases o with
  | none => rfl
  | some s => cases s <;> rfl
def ixK (o : Option Nat) (k : Nat → Res Fl) : Res Fl := match o with
  | some m => k m
  | none => .stuck
@[simp] theorem ixK_some (m : Nat) (k : Nat → Res Fl) : ixK (some m) k = k m := rfl
def setK : Option D → Option D → Nat → D → Env → Res Fl
  | some (.list xs), some (.int j), i, v, r => ixK (Ev.ixN xs.length j) fun m => .ok .nx (setAt r i (.list (xs.set m v)))
  | _, _, _, _, _ => .stuck
@[simp] theorem setK_l (xs : List D) (j : Int) (i : Nat) (v : D) : setK (some (.list xs)) (some (.int j)) i v r = ixK (Ev.ixN xs.length j) fun m => .ok .nx (setAt r i (.list (xs.set m v))) := rfl
@[simp] theorem s_sto (i : Nat) (k e : IE) : evS call W (.sto i k e) r = ((ev call e).1 r).bind fun x r1 => (solidR r1 x).bind fun v r2 => lendF (mutAt r2 i) r2 fun r2 => ((ev call k).1 r2).bind fun y r3 => setK (mutAt r3 i) (deref r3 y) i v r3 := by
  show Res.bind _ _ = _
  congr; funext x r1; congr; funext v r2
  generalize mutAt r2 i = o
  cases o with
  | none => rfl
  | some d =>
    show Res.bind _ _ = Res.bind _ _
    congr; funext y r3
    generalize mutAt r3 i = o2
    generalize deref r3 y = o3
    cases o2 with
    | none => rfl
    | some d2 =>
      cases o3 with
      | none => cases d2 <;> rfl
      | some d3 =>
        cases d2 <;> first | rfl | skip
        cases d3 <;> first | rfl | skip
        all_goals (unfold setK ixK; split <;> rfl)
/-! a def's run -/
@[simp] theorem outs_nil (r : Env) : outsOf [] r = some [] := rfl
@[simp] theorem outs_v (d : D) (l : List Sl) (s : Sl) (r : Env) : outsOf (.val d :: l) (s :: r) = outsOf l r := rfl
@[simp] theorem outs_b (d e : D) (l : List Sl) (r : Env) : outsOf (.bor d :: l) (.bor e :: r) = (outsOf l r).map (e :: ·) := rfl
def endK (as : List Sl) : Res Fl → CR
  | .ok .nx r => endCall as false .none r
  | .ok (.ret b v) r => endCall as b v r
  | .ok _ _ => .stuck
  | .exc c d _ => .exc c d
  | .stuck => .stuck
@[simp] theorem endK_nx (as : List Sl) : endK as (.ok .nx r) = endCall as false .none r := rfl
@[simp] theorem endK_ret (as : List Sl) (b : Bool) (v : D) : endK as (.ok (.ret b v) r) = endCall as b v r := rfl
@[simp] theorem endK_exc (as : List Sl) (c : Str) (v : D) : endK as (.exc c v r) = .exc c v := rfl
@[simp] theorem endK_stuck (as : List Sl) : endK as .stuck = .stuck := rfl
@[simp] theorem endK_ite {c : Prop} [Decidable c] (as : List Sl) (a b : Res Fl) : endK as (if c then a else b) = if c then endK as a else endK as b := by split <;> rfl
theorem runDef_eq (df : Df) (as : List Sl) (h : as.length = df.np) : runDef call W df as = endK as (evB call W df.body (as ++ List.replicate (df.names.length - df.np) .un)) := by
  unfold runDef
  rw [if_pos h]
  cases evB call W df.body (as ++ List.replicate (df.names.length - df.np) .un) with
  | ok f r => cases f <;> rfl
  | exc c d r => rfl
  | stuck => rfl
def endS : Option (List D) → Bool → D → CR
  | some os, b, v => .ok b v os
  | none, _, _ => .stuck
@[simp] theorem endS_some (os : List D) (b : Bool) (v : D) : endS (some os) b v = .ok b v os := rfl
@[simp] theorem endCall_eq (as : List Sl) (b : Bool) (v : D) : endCall as b v r = endS (outsOf as r) b v := by
  unfold endCall
  cases outsOf as r <;> rfl
end
/-! comprehensions whose elements leave the frame as it is -/
theorem compL_flat {α : Type} {f : D → Env → Res (List D)} {vs : List Nat} {en : α → D} {g : α → List D} {w : Env} : ∀ (xs : List α) (r : Env), wipeE vs r = w → (∀ x ∈ xs, ∀ r, wipeE vs r = w → ∃ r', f (en x) r = .ok (g x) r' ∧ wipeE vs r' = w) → ∃ r', compL f (xs.map en) r = .ok (xs.flatMap g) r' ∧ wipeE vs r' = w
  | [], r, h, _ => ⟨r, rfl, h⟩
  | x :: xs, r, h, hf => by
    obtain ⟨r1, e1, h1⟩ := hf x List.mem_cons_self r h
    obtain ⟨r2, e2, h2⟩ := compL_flat xs r1 h1 fun y hy => hf y (List.mem_cons_of_mem _ hy)
    refine ⟨r2, ?_, h2⟩
    rw [List.map_cons]
    unfold compL
    rw [e1]
    dsimp only
    rw [e2]
    rfl
theorem back_wipe {vs : List Nat} {r r' : Env} (h : wipeE vs r' = wipeE vs r) : backE r vs r' = r := by
  have hl : r'.length = r.length := by
    have := congrArg List.length h
    rwa [wipeE_len, wipeE_len] at this
  apply List.ext_getElem?
  intro j
  rw [backE_get r r' hl.symm]
  by_cases hj : j ∈ vs
  · rw [if_pos hj]
  · rw [if_neg hj]
    have := congrArg (fun q : Env => q[j]?) h
    rwa [wipeE_get, wipeE_get, if_neg hj, if_neg hj] at this
/-- the turn of a comprehension -/
def item (call : Nat → List Sl → CR) (elt : IE) (t : IT) (c : IO) (vs : List Nat) (x : D) (w : Env) : Res (List D) := (asn t (.d x) w).bind fun _ r3 =>
          (evT call c r3).bind fun ok r4 => if ok = true then ((ev call elt).1 r4).bind fun y r5 => (solidR r5 y).bind fun v r6 => .ok [v] r6 else .ok [] r4
theorem e_cm1 {α : Type} {call : Nat → List Sl → CR} {own : List (Str × Nat)} {elt : IE} {t : IT} {it : II} {c : IO} {r r1 : Env} {xs : List α} {en : α → D} (g : α → List D) (hi : evI call it r = .ok (xs.map en) r1)
    (h : ∀ x ∈ xs, ∃ r', item call elt t c (own.map (·.2)) (en x) (wipeE (own.map (·.2)) r1) = .ok (g x) r' ∧ wipeE (own.map (·.2)) r' = wipeE (own.map (·.2)) r1) (hl : (xs.flatMap g).length ≤ SZ) :
    (ev call (.cm1 own elt t it c)).1 r = .ok (.f (.list (xs.flatMap g))) r1 := by
  show (evI call it r).bind _ = _
  rw [hi]
  show (match compL _ (xs.map en) r1 with
      | .ok ys r2 => if ys.length ≤ SZ then Res.ok (TV.f (.list ys)) (backE r1 (own.map Prod.snd) r2) else .stuck
      | _ => .stuck) = _
  obtain ⟨r2, e, hw⟩ := compL_flat (f := fun x r2 => (asn t (.d x) (wipeE (own.map Prod.snd) r2)).bind fun _ r3 =>
          (evT call c r3).bind fun ok r4 => match ok with
            | true => ((ev call elt).1 r4).bind fun y r5 => (solidR r5 y).bind fun v r6 => .ok [v] r6
            | false => .ok [] r4) (vs := own.map Prod.snd) (en := en) (g := g) xs r1 rfl fun x hx r hr => by
    obtain ⟨r', e1, e2⟩ := h x hx
    refine ⟨r', ?_, e2⟩
    rw [hr, ← e1]
    unfold item
    congr; funext _ r3; congr; funext ok r4; cases ok <;> rfl
  exact (show ∀ m, m = Res.ok (xs.flatMap g) r2 → (match m with
      | .ok ys r2 => if ys.length ≤ SZ then Res.ok (TV.f (.list ys)) (backE r1 (own.map Prod.snd) r2) else .stuck
      | _ => .stuck) = Res.ok (TV.f (.list (xs.flatMap g))) r1 from fun m hm => by
    subst hm
    dsimp only
    rw [if_pos hl, back_wipe hw]) _ e
/-- one item for each -/
theorem e_map {α : Type} {call : Nat → List Sl → CR} {own : List (Str × Nat)} {elt : IE} {t : IT} {it : II} {c : IO} {r r1 : Env} {xs : List α} {en : α → D} (g : α → D) (hi : evI call it r = .ok (xs.map en) r1)
    (h : ∀ x ∈ xs, ∃ r', item call elt t c (own.map (·.2)) (en x) (wipeE (own.map (·.2)) r1) = .ok [g x] r' ∧ wipeE (own.map (·.2)) r' = wipeE (own.map (·.2)) r1) (hl : xs.length ≤ SZ) :
    (ev call (.cm1 own elt t it c)).1 r = .ok (.f (.list (xs.map g))) r1 := by
  have e : xs.flatMap (fun x => [g x]) = xs.map g := by
    clear hi h hl
    induction xs with
    | nil => rfl
    | cons x xs ih =>
      rw [List.flatMap_cons, ih]
      rfl
  have := e_cm1 (elt := elt) (t := t) (c := c) (fun x => [g x]) hi h (by rw [e, List.length_map]; exact hl)
  rw [e] at this
  exact this
/-- those that pass -/
theorem e_filter {α : Type} {call : Nat → List Sl → CR} {own : List (Str × Nat)} {elt : IE} {t : IT} {it : II} {c : IO} {r r1 : Env} {xs : List α} {en : α → D} (q : α → Bool) (g : α → D) (hi : evI call it r = .ok (xs.map en) r1)
    (h : ∀ x ∈ xs, ∃ r', item call elt t c (own.map (·.2)) (en x) (wipeE (own.map (·.2)) r1) = .ok (if q x = true then [g x] else []) r' ∧ wipeE (own.map (·.2)) r' = wipeE (own.map (·.2)) r1) (hl : xs.length ≤ SZ) :
    (ev call (.cm1 own elt t it c)).1 r = .ok (.f (.list ((xs.filter q).map g))) r1 := by
  have e : xs.flatMap (fun x => if q x = true then [g x] else []) = (xs.filter q).map g := by
    clear hi h hl
    induction xs with
    | nil => rfl
    | cons x xs ih =>
      rw [List.flatMap_cons, ih]
      by_cases hq : q x = true <;> simp [hq]
  have := e_cm1 (elt := elt) (t := t) (c := c) (fun x => if q x = true then [g x] else []) hi h (by
    rw [e, List.length_map]
    exact Nat.le_trans (List.length_filter_le _ _) hl)
  rw [e] at this
  exact this
/-- a loop that keeps on -/
theorem for_nx {f : D → Env → Res Fl} {x : D} {xs : List D} {r r' : Env} (h : f x r = .ok .nx r') : forL f (x :: xs) r = forL f xs r' := by
  show (match f x r with
    | .ok .nx r' => forL f xs r'
    | .ok .cnt r' => forL f xs r'
    | .ok .brk r' => .ok .nx r'
    | .ok (.ret b v) r' => .ok (.ret b v) r'
    | .exc c d r' => .exc c d r'
    | .stuck => .stuck) = _
  rw [h]
theorem for_end {f : D → Env → Res Fl} {r : Env} : forL f [] r = .ok .nx r := rfl
end Ev

end
section
set_option linter.all false
set_option maxHeartbeats 4000000
/-! Comprehensions of two turns; while loops. -/
namespace Ev
open PySem
/-- the outer turn of a comprehension of two -/
def item2 (call : Nat → List Sl → CR) (elt : IE) (t : IT) (c : IO) (t2 : IT) (it2 : II) (c2 : IO) (vs2 : List Nat) (x : D) (w : Env) : Res (List D) := (asn t (.d x) w).bind fun _ r3 =>
          (evT call c r3).bind fun ok r4 => if ok = true then (evI call it2 r4).bind fun zs r5 => compL (fun z r6 => item call elt t2 c2 vs2 z (wipeE vs2 r6)) zs r5 else .ok [] r4
theorem e_cm2 {α : Type} {call : Nat → List Sl → CR} {own : List (Str × Nat)} {own2 : List Nat} {elt : IE} {t : IT} {it : II} {c : IO} {t2 : IT} {it2 : II} {c2 : IO} {r r1 : Env} {xs : List α} {en : α → D} (g : α → List D) (hi : evI call it r = .ok (xs.map en) r1)
    (h : ∀ x ∈ xs, ∃ r', item2 call elt t c t2 it2 c2 own2 (en x) (wipeE (own.map (·.2)) r1) = .ok (g x) r' ∧ wipeE (own.map (·.2)) r' = wipeE (own.map (·.2)) r1) (hl : (xs.flatMap g).length ≤ SZ) :
    (ev call (.cm2 own own2 elt t it c t2 it2 c2)).1 r = .ok (.f (.list (xs.flatMap g))) r1 := by
  show (evI call it r).bind _ = _
  rw [hi]
  show (match compL _ (xs.map en) r1 with
      | .ok ys r2 => if ys.length ≤ SZ then Res.ok (TV.f (.list ys)) (backE r1 (own.map Prod.snd) r2) else .stuck
      | _ => .stuck) = _
  obtain ⟨r2, e, hw⟩ := compL_flat (f := fun x r2 => (asn t (.d x) (wipeE (own.map Prod.snd) r2)).bind fun _ r3 =>
          (evT call c r3).bind fun ok r4 => match ok with
            | true => (evI call it2 r4).bind fun zs r5 =>
              compL (fun z r6 => (asn t2 (.d z) (wipeE own2 r6)).bind fun _ r7 =>
                (evT call c2 r7).bind fun ok2 r8 => match ok2 with
                  | true => ((ev call elt).1 r8).bind fun y r9 => (solidR r9 y).bind fun v r10 => .ok [v] r10
                  | false => .ok [] r8) zs r5
            | false => .ok [] r4) (vs := own.map Prod.snd) (en := en) (g := g) xs r1 rfl fun x hx r hr => by
    obtain ⟨r', e1, e2⟩ := h x hx
    refine ⟨r', ?_, e2⟩
    rw [hr, ← e1]
    unfold item2 item
    congr; funext _ r3; congr; funext ok r4
    cases ok
    · rfl
    · show Res.bind _ _ = Res.bind _ _
      congr; funext zs r5; congr; funext z r6; congr; funext _ r7; congr; funext ok2 r8; cases ok2 <;> rfl
  exact (show ∀ m, m = Res.ok (xs.flatMap g) r2 → (match m with
      | .ok ys r2 => if ys.length ≤ SZ then Res.ok (TV.f (.list ys)) (backE r1 (own.map Prod.snd) r2) else .stuck
      | _ => .stuck) = Res.ok (TV.f (.list (xs.flatMap g))) r1 from fun m hm => by
    subst hm
    dsimp only
    rw [if_pos hl, back_wipe hw]) _ e
theorem whl_nx {c : Env → Res Bool} {f : Env → Res Fl} {n : Nat} {r r1 r2 : Env} (hc : c r = .ok true r1) (hf : f r1 = .ok .nx r2) : whileN c f (n + 1) r = whileN c f n r2 := by
  show (c r).bind _ = _
  rw [hc]
  show (match f r1 with
      | .ok .nx r' => whileN c f n r'
      | .ok .cnt r' => whileN c f n r'
      | .ok .brk r' => .ok .nx r'
      | .ok (.ret b v) r' => .ok (.ret b v) r'
      | .exc c d r' => .exc c d r'
      | .stuck => .stuck) = _
  rw [hf]
theorem whl_end {c : Env → Res Bool} {f : Env → Res Fl} {n : Nat} {r r1 : Env} (hc : c r = .ok false r1) : whileN c f (n + 1) r = .ok .nx r1 := by
  show (c r).bind _ = _
  rw [hc]
  rfl
theorem for_ret {f : D → Env → Res Fl} {x : D} {xs : List D} {r r' : Env} {b : Bool} {v : D} (h : f x r = .ok (.ret b v) r') : forL f (x :: xs) r = .ok (.ret b v) r' := by
  show (match f x r with
    | .ok .nx r' => forL f xs r'
    | .ok .cnt r' => forL f xs r'
    | .ok .brk r' => .ok .nx r'
    | .ok (.ret b v) r' => .ok (.ret b v) r'
    | .exc c d r' => .exc c d r'
    | .stuck => .stuck) = _
  rw [h]
end Ev

end
section
set_option linter.all false
set_option maxHeartbeats 4000000
/-! Rules for dicts. -/
namespace Ev
open PySem
section
variable (call : Nat → List Sl → CR) (r : Env)
@[simp] theorem e_emp (t : Bool) : (ev call (.emp t)).1 r = .ok (.f (.dict (if t = true then [markT] else []))) r := rfl
@[simp] theorem e_din (n : Bool) (k d : IE) : (ev call (.din n k d)).1 r = ((ev call k).1 r).bind fun y r1 => ((ev call d).1 r1).bind fun x r2 => bi2S (fun u v => (getD1 u v).map fun t => .d (.bool (if n = true then t.isNone else t.isSome))) (deref r2 x) (deref r2 y) r2 := by
  show Res.bind _ _ = _
  congr; funext y r1; congr; funext x r2
  cases deref r2 x <;> cases deref r2 y <;> rfl
@[simp] theorem e_dix (d k : IE) : (ev call (.dix d k)).1 r = ((ev call d).1 r).bind fun x r1 => ((ev call k).1 r1).bind fun y r2 => bi2S (fun u v => (getD1 u v).bind fun t => t.map .d) (deref r2 x) (deref r2 y) r2 := by
  show Res.bind _ _ = _
  congr; funext x r1; congr; funext y r2
  cases deref r2 x <;> cases deref r2 y <;> rfl
def sdkS : Option D → Env → (D → Env → Res TV) → Res TV
  | some u, r, k => k u r
  | none, _, _ => .stuck
@[simp] theorem sdkS_some (u : D) (k : D → Env → Res TV) : sdkS (some u) r k = k u r := rfl
@[simp] theorem e_sdk (d k v : IE) : (ev call (.sdk d k v)).1 r = ((ev call d).1 r).bind fun x r1 => sdkS (deref r1 x) r1 fun u r1 => ((ev call k).1 r1).bind fun y r2 => ((ev call v).1 r2).bind fun z r3 => (solidR r3 z).bind fun w r4 => un1S (fun kd => (mrgK u kd w).map .f) (deref r4 y) r4 := by
  show Res.bind _ _ = _
  congr; funext x r1
  cases deref r1 x with
  | none => rfl
  | some u =>
    show Res.bind _ _ = Res.bind _ _
    congr; funext y r2; congr; funext z r3; congr; funext w r4
    cases deref r4 y <;> rfl
@[simp] theorem e_tin (n : Bool) (l : IA) (d : IE) : (ev call (.tin n l d)).1 r = (evA call l r).bind fun ds r1 => ((ev call d).1 r1).bind fun x r2 => un1S (fun u => (getT u ds).map fun t => .d (.bool (if n = true then t.isNone else t.isSome))) (deref r2 x) r2 := by
  show Res.bind _ _ = _
  congr; funext ds r1; congr; funext x r2
  cases deref r2 x <;> rfl
@[simp] theorem e_tix (d : IE) (l : IA) : (ev call (.tix d l)).1 r = ((ev call d).1 r).bind fun x r1 => (evA call l r1).bind fun ds r2 => un1S (fun u => (getT u ds).bind fun t => t.map .d) (deref r2 x) r2 := by
  show Res.bind _ _ = _
  congr; funext x r1; congr; funext ds r2
  cases deref r2 x <;> rfl
@[simp] theorem e_tg1 (d : IE) (l : IA) : (ev call (.tg1 d l)).1 r = ((ev call d).1 r).bind fun x r1 => dicS (deref r1 x) r1 fun r1 => (evA call l r1).bind fun ds r2 => un1S (fun u => (getT u ds).map fun t => .d (t.getD .none)) (deref r2 x) r2 := by
  show Res.bind _ _ = _
  congr; funext x r1
  rw [← dic_eq]
  congr; funext _ r1; congr; funext ds r2
  cases deref r2 x <;> rfl
@[simp] theorem e_tg2 (d : IE) (l : IA) (e : IE) : (ev call (.tg2 d l e)).1 r = ((ev call d).1 r).bind fun x r1 => dicS (deref r1 x) r1 fun r1 => (evA call l r1).bind fun ds r2 => ((ev call e).1 r2).bind fun z r3 => (solidR r3 z).bind fun w r4 => un1S (fun u => (getT u ds).map fun t => .d (t.getD w)) (deref r4 x) r4 := by
  show Res.bind _ _ = _
  congr; funext x r1
  rw [← dic_eq]
  congr; funext _ r1; congr; funext ds r2; congr; funext z r3; congr; funext w r4
  cases deref r4 x <;> rfl
@[simp] theorem e_sdt (d : IE) (l : IA) (v : IE) : (ev call (.sdt d l v)).1 r = ((ev call d).1 r).bind fun x r1 => sdkS (deref r1 x) r1 fun u r1 => (evA call l r1).bind fun ds r2 => ((ev call v).1 r2).bind fun z r3 => (solidR r3 z).bind fun w r4 => .of ((mrgT u ds w).map .f) r4 := by
  show Res.bind _ _ = _
  congr; funext x r1
  cases deref r1 x <;> rfl
@[simp] theorem c_din (n : Bool) (k d : IE) : (ev call (.din n k d)).2 r = ((ev call (.din n k d)).1 r).bind tru := t_eq r
@[simp] theorem c_tin (n : Bool) (l : IA) (d : IE) : (ev call (.tin n l d)).2 r = ((ev call (.tin n l d)).1 r).bind tru := t_eq r
variable (W : Nat)
def dstS (i : Nat) (v : D) : Option D → Option D → Env → Res Fl
  | some u, some kd, r => match mrgK u kd v with
    | some d => .ok .nx (setAt r i d)
    | none => .stuck
  | _, _, _ => .stuck
theorem dstS_some (i : Nat) (u kd v d : D) (h : mrgK u kd v = some d) : dstS i v (some u) (some kd) r = .ok .nx (setAt r i d) := by
  show (match mrgK u kd v with | some d => Res.ok Fl.nx (setAt r i d) | none => .stuck) = _
  rw [h]
@[simp] theorem s_dst (i : Nat) (k e : IE) : evS call W (.dst i k e) r = ((ev call e).1 r).bind fun x r1 => (solidR r1 x).bind fun v r2 => lendF (mutAt r2 i) r2 fun r2 => ((ev call k).1 r2).bind fun y r3 => dstS i v (mutAt r3 i) (deref r3 y) r3 := by
  show Res.bind _ _ = _
  congr; funext x r1; congr; funext v r2
  generalize mutAt r2 i = o
  cases o with
  | none => rfl
  | some d =>
    show Res.bind _ _ = Res.bind _ _
    congr; funext y r3
    generalize mutAt r3 i = o2
    generalize deref r3 y = o3
    cases o2 <;> cases o3 <;> rfl
def tstS (i : Nat) (ds : List D) (v : D) : Option D → Env → Res Fl
  | some u, r => match mrgS u ds v with
    | some d => .ok .nx (setAt r i d)
    | none => .stuck
  | _, _ => .stuck
theorem tstS_some (i : Nat) (u v d : D) (ds : List D) (h : mrgS u ds v = some d) : tstS i ds v (some u) r = .ok .nx (setAt r i d) := by
  show (match mrgS u ds v with | some d => Res.ok Fl.nx (setAt r i d) | none => .stuck) = _
  rw [h]
@[simp] theorem s_tst (i : Nat) (l : IA) (e : IE) : evS call W (.tst i l e) r = ((ev call e).1 r).bind fun x r1 => (solidR r1 x).bind fun v r2 => lendF (mutAt r2 i) r2 fun r2 => (evA call l r2).bind fun ds r3 => tstS i ds v (mutAt r3 i) r3 := by
  show Res.bind _ _ = _
  congr; funext x r1; congr; funext v r2
  generalize mutAt r2 i = o
  cases o with
  | none => rfl
  | some d =>
    show Res.bind _ _ = Res.bind _ _
    congr; funext ds r3
    generalize mutAt r3 i = o2
    cases o2 <;> rfl
end
section
variable (b : Bool) (i : Int) (x : Str) (l : List D) (ps : List (D × D))
@[simp] theorem isN_none : isOf .none .none = some true := rfl
@[simp] theorem isN_bool : isOf (.bool b) .none = some false := rfl
@[simp] theorem isN_int : isOf (.int i) .none = some false := rfl
@[simp] theorem isN_str : isOf (.str x) .none = some false := rfl
@[simp] theorem isN_list : isOf (.list l) .none = some false := rfl
@[simp] theorem isN_tup : isOf (.tuple l) .none = some false := rfl
@[simp] theorem isN_dict : isOf (.dict ps) .none = some false := rfl
end
section
variable (call : Nat → List Sl → CR) (r : Env) (W : Nat)
@[simp] theorem e_mg1 (o k : IE) : (ev call (.mg1 o k)).1 r = ((ev call o).1 r).bind fun x r1 => dicS (deref r1 x) r1 fun r1 => ((ev call k).1 r1).bind fun y r2 =>
      bi2S (fun u v => (getD1 u v).map fun t => .d (t.getD .none)) (deref r2 x) (deref r2 y) r2 := by
  show Res.bind _ _ = _
  congr; funext x r1
  rw [← dic_eq]
  congr; funext _ r1; congr; funext y r2
  cases deref r2 x <;> cases deref r2 y <;> rfl
def appL : Option D → Env → (Env → Res Fl) → Res Fl
  | some (.list _), r, k => k r
  | _, _, _ => .stuck
def appK : Option D → Nat → D → Env → Res Fl
  | some (.list xs), i, v, r => if xs.length < SZ then .ok .nx (setAt r i (.list (xs ++ [v]))) else .stuck
  | _, _, _, _ => .stuck
@[simp] theorem appL_l (xs : List D) (k : Env → Res Fl) : appL (some (.list xs)) r k = k r := rfl
@[simp] theorem appK_l (xs : List D) (i : Nat) (v : D) : appK (some (.list xs)) i v r = if xs.length < SZ then .ok .nx (setAt r i (.list (xs ++ [v]))) else .stuck := rfl
@[simp] theorem s_app (i : Nat) (e : IE) : evS call W (.app i e) r = appL (mutAt r i) r fun r => ((ev call e).1 r).bind fun x r1 => (solidR r1 x).bind fun v r2 => appK (mutAt r2 i) i v r2 := by
  show (match mutAt r i with
    | some (.list _) => _
    | _ => _) = _
  generalize mutAt r i = o
  cases o with
  | none => rfl
  | some d =>
    cases d <;> first | rfl | skip
    show Res.bind _ _ = Res.bind _ _
    congr; funext x r1; congr; funext v r2
    generalize mutAt r2 i = o2
    cases o2 with
    | none => rfl
    | some d2 => cases d2 <;> rfl
end
section
variable (b : Bool) (i : Int) (x : Str) (l : List D) (ps : List (D × D))
@[simp] theorem nd_none : notDict .none = true := rfl
@[simp] theorem ty_int_none : isTy .int .none = false := rfl
@[simp] theorem ty_bool_none : isTy .bool .none = false := rfl
@[simp] theorem ty_str_none : isTy .str .none = false := rfl
@[simp] theorem ty_tuple_none : isTy .tuple .none = false := rfl
@[simp] theorem ty_list_none : isTy .list .none = false := rfl
@[simp] theorem nd_bool : notDict (.bool b) = true := rfl
@[simp] theorem ty_int_bool : isTy .int (.bool b) = true := rfl
@[simp] theorem ty_bool_bool : isTy .bool (.bool b) = true := rfl
@[simp] theorem ty_str_bool : isTy .str (.bool b) = false := rfl
@[simp] theorem ty_tuple_bool : isTy .tuple (.bool b) = false := rfl
@[simp] theorem ty_list_bool : isTy .list (.bool b) = false := rfl
@[simp] theorem nd_int : notDict (.int i) = true := rfl
@[simp] theorem ty_int_int : isTy .int (.int i) = true := rfl
@[simp] theorem ty_bool_int : isTy .bool (.int i) = false := rfl
@[simp] theorem ty_str_int : isTy .str (.int i) = false := rfl
@[simp] theorem ty_tuple_int : isTy .tuple (.int i) = false := rfl
@[simp] theorem ty_list_int : isTy .list (.int i) = false := rfl
@[simp] theorem nd_str : notDict (.str x) = true := rfl
@[simp] theorem ty_int_str : isTy .int (.str x) = false := rfl
@[simp] theorem ty_bool_str : isTy .bool (.str x) = false := rfl
@[simp] theorem ty_str_str : isTy .str (.str x) = true := rfl
@[simp] theorem ty_tuple_str : isTy .tuple (.str x) = false := rfl
@[simp] theorem ty_list_str : isTy .list (.str x) = false := rfl
@[simp] theorem nd_list : notDict (.list l) = true := rfl
@[simp] theorem ty_int_list : isTy .int (.list l) = false := rfl
@[simp] theorem ty_bool_list : isTy .bool (.list l) = false := rfl
@[simp] theorem ty_str_list : isTy .str (.list l) = false := rfl
@[simp] theorem ty_tuple_list : isTy .tuple (.list l) = false := rfl
@[simp] theorem ty_list_list : isTy .list (.list l) = true := rfl
@[simp] theorem nd_tup : notDict (.tuple l) = true := rfl
@[simp] theorem ty_int_tup : isTy .int (.tuple l) = false := rfl
@[simp] theorem ty_bool_tup : isTy .bool (.tuple l) = false := rfl
@[simp] theorem ty_str_tup : isTy .str (.tuple l) = false := rfl
@[simp] theorem ty_tuple_tup : isTy .tuple (.tuple l) = true := rfl
@[simp] theorem ty_list_tup : isTy .list (.tuple l) = false := rfl
@[simp] theorem nd_dict : notDict (.dict ps) = false := rfl
@[simp] theorem ty_int_dict : isTy .int (.dict ps) = false := rfl
@[simp] theorem ty_bool_dict : isTy .bool (.dict ps) = false := rfl
@[simp] theorem ty_str_dict : isTy .str (.dict ps) = false := rfl
@[simp] theorem ty_tuple_dict : isTy .tuple (.dict ps) = false := rfl
@[simp] theorem ty_list_dict : isTy .list (.dict ps) = false := rfl
end
end Ev

end
section
set_option maxRecDepth 100000
local macro_rules | `(tactic| simp! [$ts,*]) => `(tactic| simp only [Ev.bind_ok', Ev.bind_stuck', Ev.bind_ite, Ev.of_some', Ev.of_none', Ev.of_ite, Ev.slD_val, Ev.slD_own, Ev.slD_bor, Ev.deref_d, Ev.deref_f, Ev.deref_s, Ev.tru_eq, Ev.truS_some, Ev.truth_bool, Ev.truth_int, Ev.truth_list, Ev.truth_tuple, Ev.un1S_some, Ev.bi2S_some, Ev.andK_b, Ev.orK_b, Ev.negK_i, Ev.varK_val, Ev.varK_own, Ev.varK_bor, Ev.solS_val, Ev.solS_own, Ev.sol_d, Ev.sol_f, Ev.sol_s, Ev.muS_own, Ev.muS_bor, Ev.mutAt_eq, Ev.bop_add, Ev.bop_sub, Ev.bop_mul, Ev.bop_div, Ev.bop_mod, Ev.bop_tup, Ev.bop_lst, Ev.cop_lt, Ev.cop_le, Ev.cop_gt, Ev.cop_ge, Ev.cop_eqi, Ev.cop_eqs, Ev.cop_nei, Ev.cop_nes, Ev.cop_is, Ev.cop_isNot, Ev.cop_in, Ev.is_bb, Ev.e_none, Ev.e_bool, Ev.e_int, Ev.e_str, Ev.e_var, Ev.e_glob, Ev.e_bin, Ev.e_neg, Ev.e_cmp, Ev.chnS_some, Ev.e_chn, Ev.e_not, Ev.e_and, Ev.e_or, Ev.e_ife, Ev.e_tup, Ev.e_lst, Ev.e_idx, Ev.e_isi, Ev.e_bl1, Ev.e_bl2, Ev.callK_v, Ev.callK_f, Ev.callK_v1, Ev.callK_f1, Ev.callK_v2, Ev.argK_some, Ev.e_call, Ev.argsS_nil, Ev.argsS_v, Ev.argsS_l, Ev.lends_nil, Ev.lends_v, Ev.lends_l, Ev.a_nil, Ev.a_cons, Ev.r_nil, Ev.r_cons, Ev.lendK_some, Ev.r_lend, Ev.o_no, Ev.derK_some, Ev.o_yes, Ev.t_no, Ev.t_yes, Ev.i_val, Ev.slS_some, Ev.e_slc, Ev.opt_none, Ev.opt_int, Ev.slice_list, Ev.slice_tup, Ev.e_dsp, Ev.dicS_some, Ev.e_mg2, Ev.rgK_i, Ev.i_rg1, Ev.rgK2_i, Ev.i_rg2, Ev.enK_some, Ev.i_enm, Ev.zpK_some, Ev.i_zip, Ev.c_cst, Ev.c_var, Ev.c_cmp, Ev.c_chn, Ev.c_isi, Ev.c_call, Ev.c_bl1, Ev.c_not, Ev.c_and, Ev.c_or, Ev.c_ife, Ev.seqK_nx, Ev.seqK_brk, Ev.seqK_cnt, Ev.seqK_ret, Ev.seqK_exc, Ev.seqK_stuck, Ev.seqK_ite, Ev.b_nil, Ev.b_cons, Ev.retK_d, Ev.retK_f, Ev.s_ret, Ev.s_retN, Ev.s_asg, Ev.s_ex, Ev.s_if, Ev.s_for, Ev.s_whl, Ev.s_pas, Ev.s_rse, Ev.stoK_un, Ev.stoK_val, Ev.stoK_own, Ev.asn_d, Ev.asn_f, Ev.asn_fo, Ev.asn_t, Ev.asnL_nil, Ev.asnL_cons, Ev.asnP_nil, Ev.asnP_cons, Ev.s_asp, Ev.fK_f, Ev.fK_d, Ev.fK_s, Ev.f_nil, Ev.f_cons, Ev.lendF_some, Ev.setS_own, Ev.setS_bor, Ev.setAt_eq, Ev.ixK_some, Ev.setK_l, Ev.s_sto, Ev.outs_nil, Ev.outs_v, Ev.outs_b, Ev.endK_nx, Ev.endK_ret, Ev.endK_exc, Ev.endK_stuck, Ev.endK_ite, Ev.endS_some, Ev.endCall_eq, Ev.e_emp, Ev.e_din, Ev.e_dix, Ev.sdkS_some, Ev.e_sdk, Ev.e_tin, Ev.e_tix, Ev.e_tg1, Ev.e_tg2, Ev.e_sdt, Ev.c_din, Ev.c_tin, Ev.s_dst, Ev.s_tst, Ev.isN_none, Ev.isN_bool, Ev.isN_int, Ev.isN_str, Ev.isN_list, Ev.isN_tup, Ev.isN_dict, Ev.e_mg1, Ev.appL_l, Ev.appK_l, Ev.s_app, Ev.nd_none, Ev.ty_int_none, Ev.ty_bool_none, Ev.ty_str_none, Ev.ty_tuple_none, Ev.ty_list_none, Ev.nd_bool, Ev.ty_int_bool, Ev.ty_bool_bool, Ev.ty_str_bool, Ev.ty_tuple_bool, Ev.ty_list_bool, Ev.nd_int, Ev.ty_int_int, Ev.ty_bool_int, Ev.ty_str_int, Ev.ty_tuple_int, Ev.ty_list_int, Ev.nd_str, Ev.ty_int_str, Ev.ty_bool_str, Ev.ty_str_str, Ev.ty_tuple_str, Ev.ty_list_str, Ev.nd_list, Ev.ty_int_list, Ev.ty_bool_list, Ev.ty_str_list, Ev.ty_tuple_list, Ev.ty_list_list, Ev.nd_tup, Ev.ty_int_tup, Ev.ty_bool_tup, Ev.ty_str_tup, Ev.ty_tuple_tup, Ev.ty_list_tup, Ev.nd_dict, Ev.ty_int_dict, Ev.ty_bool_dict, Ev.ty_str_dict, Ev.ty_tuple_dict, Ev.ty_list_dict, List.getElem?_cons_zero, List.getElem?_cons_succ, List.getElem?_nil, List.set_cons_zero, List.set_cons_succ, List.length_cons, List.length_nil, List.replicate_succ, List.replicate_zero, List.cons_append, List.nil_append, List.append_nil, List.nodup_nil, List.nodup_cons, List.mem_cons, List.not_mem_nil, List.isEmpty_nil, List.isEmpty_cons, Option.map_some, Option.map_none, Option.bind_some, Option.bind_none, Option.getD_some, Option.getD_none, Option.isSome_some, Option.isSome_none, Option.isNone_some, Option.isNone_none, ite_true, ite_false, if_true, if_false, decide_true, decide_false, decide_eq_true_eq, Bool.not_true, Bool.not_false, Bool.not_not, Bool.true_and, Bool.false_and, Bool.and_true, Bool.and_false, Bool.or_true, Bool.or_false, Bool.true_or, Bool.false_or, Bool.not_eq_true, Bool.not_eq_true', Bool.and_self, Bool.or_self, Bool.false_eq_true, reduceCtorEq, not_true_eq_false, not_false_eq_true, or_false, false_or, or_true, true_or, and_true, true_and, and_false, false_and, eq_self, bne_self_eq_false, Nat.reduceAdd, Nat.reduceSub, Nat.reduceLeDiff, Nat.reduceLT, Nat.reduceEqDiff, Nat.zero_add, Nat.reduceMul, Int.reduceNeg, Int.reduceAdd, Int.reduceSub, Int.reduceMul, Int.reduceLT, Int.reduceLE, Int.reduceEq, Int.reduceDiv, Int.reduceMod, Int.reduceToNat, Int.reducePow, Nat.succ_ne_zero, Nat.add_eq_zero_iff, Nat.le_refl, Nat.one_ne_zero, ↓reduceIte, Ev.SZ, $ts,*])
set_option linter.all false
set_option maxHeartbeats 4000000
/-! Comprehensions of one or two own names, by what their element comes to in the frame with the names set. -/
namespace Ev
open PySem
theorem set_un {r : Env} {k : Nat} (h : r[k]? = some .un) : r.set k .un = r := by
  apply List.ext_getElem?
  intro j
  rw [List.getElem?_set]
  by_cases e : k = j
  · subst e
    have := (List.getElem?_eq_some_iff.mp h).1
    rw [if_pos rfl, if_pos this, h]
  · rw [if_neg e]
theorem wipe_un {r : Env} {k : Nat} (h : r[k]? = some .un) : wipeE [k] r = r := set_un h
theorem wipe_set {r : Env} {k : Nat} (h : r[k]? = some .un) (s : Sl) : wipeE [k] (r.set k s) = r := by
  show (r.set k s).set k .un = r
  rw [List.set_set]
  exact set_un h
theorem asn_un {r : Env} {k : Nat} (h : r[k]? = some .un) (x : D) : asn (.n k false) (.d x) r = .ok () (r.set k (.val x)) := by
  rw [asn_d, h]
  rfl
section
variable {α : Type} {call : Nat → List Sl → CR} {nm : Str} {k : Nat} {elt : IE} {it : II} {c : IE} {r r1 : Env} {xs : List α} {en : α → D}
theorem cm_map (g : α → D) (hk : r1[k]? = some .un) (hi : evI call it r = .ok (xs.map en) r1)
    (h : ∀ x ∈ xs, (((ev call elt).1 (r1.set k (.val (en x)))).bind fun y r5 => solidR r5 y) = .ok (g x) (r1.set k (.val (en x)))) (hl : xs.length ≤ SZ) :
    (ev call (.cm1 [(nm, k)] elt (.n k false) it .no)).1 r = .ok (.f (.list (xs.map g))) r1 := by
  refine e_map g hi (fun x hx => ⟨r1.set k (.val (en x)), ?_, ?_⟩) hl
  · show item call elt (.n k false) .no [k] (en x) (wipeE [k] r1) = _
    rw [wipe_un hk]
    unfold item
    rw [asn_un hk]
    have e := h x hx
    show ((ev call elt).1 (r1.set k (.val (en x)))).bind (fun y r5 => (solidR r5 y).bind fun v r6 => .ok [v] r6) = _
    revert e
    generalize (ev call elt).1 (r1.set k (.val (en x))) = m
    intro e
    cases m with
    | ok y r5 =>
      have e' : solidR r5 y = .ok (g x) (r1.set k (.val (en x))) := e
      show (solidR r5 y).bind _ = _
      rw [e']
      rfl
    | exc a b c => exact nomatch e
    | stuck => exact nomatch e
  · show wipeE [k] _ = wipeE [k] _
    rw [wipe_un hk, wipe_set hk]
theorem cm_fil (q : α → Bool) (g : α → D) (hk : r1[k]? = some .un) (hi : evI call it r = .ok (xs.map en) r1)
    (hc : ∀ x ∈ xs, (ev call c).2 (r1.set k (.val (en x))) = .ok (q x) (r1.set k (.val (en x))))
    (h : ∀ x ∈ xs, q x = true → (((ev call elt).1 (r1.set k (.val (en x)))).bind fun y r5 => solidR r5 y) = .ok (g x) (r1.set k (.val (en x)))) (hl : xs.length ≤ SZ) :
    (ev call (.cm1 [(nm, k)] elt (.n k false) it (.yes c))).1 r = .ok (.f (.list ((xs.filter q).map g))) r1 := by
  refine e_filter q g hi (fun x hx => ⟨r1.set k (.val (en x)), ?_, ?_⟩) hl
  · show item call elt (.n k false) (.yes c) [k] (en x) (wipeE [k] r1) = _
    rw [wipe_un hk]
    unfold item
    rw [asn_un hk, bind_ok', t_yes, hc x hx, bind_ok']
    cases hq : q x with
    | false => rfl
    | true =>
      have e := h x hx hq
      rw [if_pos rfl, if_pos rfl]
      revert e
      generalize (ev call elt).1 (r1.set k (.val (en x))) = m
      intro e
      cases m with
      | ok y r5 =>
        have e' : solidR r5 y = .ok (g x) (r1.set k (.val (en x))) := e
        show (solidR r5 y).bind _ = _
        rw [e']
        rfl
      | exc a b c => exact nomatch e
      | stuck => exact nomatch e
  · show wipeE [k] _ = wipeE [k] _
    rw [wipe_un hk, wipe_set hk]
end
/-! two names: for a, b in .. -/
theorem wipe2_un {r : Env} {k j : Nat} (h : r[k]? = some .un) (h2 : r[j]? = some .un) : wipeE [k, j] r = r := by
  show (r.set j .un).set k .un = r
  rw [set_un h2, set_un h]
theorem wipe2_set {r : Env} {k j : Nat} (hkj : k ≠ j) (h : r[k]? = some .un) (h2 : r[j]? = some .un) (s t : Sl) : wipeE [k, j] ((r.set k s).set j t) = r := by
  show (((r.set k s).set j t).set j .un).set k .un = r
  rw [List.set_set, List.set_comm _ _ hkj, List.set_set, set_un h2, set_un h]
theorem asn2_un {r : Env} {k j : Nat} (hkj : k ≠ j) (h : r[k]? = some .un) (h2 : r[j]? = some .un) (x y : D) : asn (.t [.n k false, .n j false]) (.d (.tuple [x, y])) r = .ok () ((r.set k (.val x)).set j (.val y)) := by
  rw [asn_t, asnL_cons, asn_un h, bind_ok', asnL_cons, asn_d, List.getElem?_set, if_neg hkj, h2]
  rfl
section
variable {α : Type} {call : Nat → List Sl → CR} {nm nm2 : Str} {k j : Nat} {elt : IE} {it : II} {c : IE} {r r1 : Env} {xs : List α} {en en2 : α → D}
theorem cm_map2 (g : α → D) (hkj : k ≠ j) (hk : r1[k]? = some .un) (hj : r1[j]? = some .un) (hi : evI call it r = .ok (xs.map fun x => .tuple [en x, en2 x]) r1)
    (h : ∀ x ∈ xs, (((ev call elt).1 ((r1.set k (.val (en x))).set j (.val (en2 x)))).bind fun y r5 => solidR r5 y) = .ok (g x) ((r1.set k (.val (en x))).set j (.val (en2 x)))) (hl : xs.length ≤ SZ) :
    (ev call (.cm1 [(nm, k), (nm2, j)] elt (.t [.n k false, .n j false]) it .no)).1 r = .ok (.f (.list (xs.map g))) r1 := by
  refine e_map g hi (fun x hx => ⟨(r1.set k (.val (en x))).set j (.val (en2 x)), ?_, ?_⟩) hl
  · show item call elt _ .no [k, j] (.tuple [en x, en2 x]) (wipeE [k, j] r1) = _
    rw [wipe2_un hk hj]
    unfold item
    rw [asn2_un hkj hk hj]
    have e := h x hx
    show ((ev call elt).1 _).bind (fun y r5 => (solidR r5 y).bind fun v r6 => .ok [v] r6) = _
    revert e
    generalize (ev call elt).1 ((r1.set k (.val (en x))).set j (.val (en2 x))) = m
    intro e
    cases m with
    | ok y r5 =>
      have e' : solidR r5 y = .ok (g x) _ := e
      show (solidR r5 y).bind _ = _
      rw [e']
      rfl
    | exc a b c => exact nomatch e
    | stuck => exact nomatch e
  · show wipeE [k, j] _ = wipeE [k, j] _
    rw [wipe2_un hk hj, wipe2_set hkj hk hj]
theorem cm_fil2 (q : α → Bool) (g : α → D) (hkj : k ≠ j) (hk : r1[k]? = some .un) (hj : r1[j]? = some .un) (hi : evI call it r = .ok (xs.map fun x => .tuple [en x, en2 x]) r1)
    (hc : ∀ x ∈ xs, (ev call c).2 ((r1.set k (.val (en x))).set j (.val (en2 x))) = .ok (q x) ((r1.set k (.val (en x))).set j (.val (en2 x))))
    (h : ∀ x ∈ xs, q x = true → (((ev call elt).1 ((r1.set k (.val (en x))).set j (.val (en2 x)))).bind fun y r5 => solidR r5 y) = .ok (g x) ((r1.set k (.val (en x))).set j (.val (en2 x)))) (hl : xs.length ≤ SZ) :
    (ev call (.cm1 [(nm, k), (nm2, j)] elt (.t [.n k false, .n j false]) it (.yes c))).1 r = .ok (.f (.list ((xs.filter q).map g))) r1 := by
  refine e_filter q g hi (fun x hx => ⟨(r1.set k (.val (en x))).set j (.val (en2 x)), ?_, ?_⟩) hl
  · show item call elt _ (.yes c) [k, j] (.tuple [en x, en2 x]) (wipeE [k, j] r1) = _
    rw [wipe2_un hk hj]
    unfold item
    rw [asn2_un hkj hk hj, bind_ok', t_yes, hc x hx, bind_ok']
    cases hq : q x with
    | false => rfl
    | true =>
      have e := h x hx hq
      rw [if_pos rfl, if_pos rfl]
      revert e
      generalize (ev call elt).1 ((r1.set k (.val (en x))).set j (.val (en2 x))) = m
      intro e
      cases m with
      | ok y r5 =>
        have e' : solidR r5 y = .ok (g x) _ := e
        show (solidR r5 y).bind _ = _
        rw [e']
        rfl
      | exc a b c => exact nomatch e
      | stuck => exact nomatch e
  · show wipeE [k, j] _ = wipeE [k, j] _
    rw [wipe2_un hk hj, wipe2_set hkj hk hj]
end
/-! a for loop whose turns all go on: an invariant by the part that is done -/
theorem for_inv {α : Type} {f : D → Env → Res Fl} {en : α → D} (I : List α → Env → Prop) : ∀ (xs done : List α) (r : Env), I done r →
    (∀ d x r, (∃ t, xs = t ++ x :: (xs.drop (t.length + 1)) ∧ d = done ++ t) → I d r → ∃ r', f (en x) r = .ok .nx r' ∧ I (d ++ [x]) r') → ∃ r', forL f (xs.map en) r = .ok .nx r' ∧ I (done ++ xs) r'
  | [], done, r, h, _ => ⟨r, rfl, by rw [List.append_nil]; exact h⟩
  | x :: xs, done, r, h, hf => by
    obtain ⟨r1, e1, h1⟩ := hf done x r ⟨[], rfl, by simp⟩ h
    obtain ⟨r2, e2, h2⟩ := for_inv I xs (done ++ [x]) r1 h1 fun d y r ⟨t, ht, hd⟩ hI => hf d y r ⟨x :: t, by
      show x :: xs = x :: (t ++ y :: ((x :: xs).drop (t.length + 1 + 1)))
      rw [List.drop_succ_cons, ← ht], by rw [hd, List.append_assoc]; rfl⟩ hI
    refine ⟨r2, ?_, by rw [List.append_assoc] at h2; exact h2⟩
    rw [List.map_cons, for_nx e1]
    exact e2
end Ev
namespace Ev
open PySem
theorem and_ok {p : Prop} [Decidable p] {q : Bool} {r : Env} : (if p then Res.ok q r else .ok false r) = .ok (decide p && q) r := by by_cases h : p <;> simp [h]
theorem or_ok {p : Prop} [Decidable p] {q : Bool} {r : Env} : (if p then Res.ok true r else .ok q r) = .ok (decide p || q) r := by by_cases h : p <;> simp [h]
theorem and_okv {p : Prop} [Decidable p] {q : Bool} {r : Env} : (if p then Res.ok (TV.d (.bool q)) r else .ok (.d (.bool false)) r) = .ok (.d (.bool (decide p && q))) r := by by_cases h : p <;> simp [h]
theorem or_okv {p : Prop} [Decidable p] {q : Bool} {r : Env} : (if p then Res.ok (TV.d (.bool true)) r else .ok (.d (.bool q)) r) = .ok (.d (.bool (decide p || q))) r := by by_cases h : p <;> simp [h]
theorem eqOk_shaped {a b : D} (ha : SeqAt.shaped a = true) (hb : SeqAt.shaped b = true) : eqOk a b = true := by
  unfold eqOk
  rw [ha, hb]
  simp
theorem shaped_list {xs : List D} (h1 : PyData.canLayAll0 xs = true) (h2 : PyData.depthAll xs ≤ 60) : SeqAt.shaped (.list xs) = true := by
  unfold SeqAt.shaped
  rw [Bool.and_eq_true]
  refine ⟨h1, decide_eq_true ?_⟩
  show PyData.depthAll _ + 1 ≤ 64
  omega
theorem shaped_tup {xs : List D} (h1 : PyData.canLayAll0 xs = true) (h2 : PyData.depthAll xs ≤ 60) : SeqAt.shaped (.tuple xs) = true := by
  unfold SeqAt.shaped
  rw [Bool.and_eq_true]
  refine ⟨h1, decide_eq_true ?_⟩
  show PyData.depthAll _ + 1 ≤ 64
  omega
theorem cop_eqD {a b : D} (h : eqOk a b = true) : cop .eq a b = some (PyData.eqv a b) := by
  show (if eqOk a b = true then some (PyData.eqv a b) else none) = _
  rw [if_pos h]
theorem cop_neD {a b : D} (h : eqOk a b = true) : cop .ne a b = some (!PyData.eqv a b) := by
  show (if eqOk a b = true then some (!PyData.eqv a b) else none) = _
  rw [if_pos h]
theorem ne_lnil {xs : List D} (h1 : PyData.canLayAll0 xs = true) (h2 : PyData.depthAll xs ≤ 60) : cop .ne (.list xs) (.list []) = some (decide (xs ≠ [])) := by
  rw [cop_neD (eqOk_shaped (shaped_list h1 h2) (by decide))]
  cases xs <;> rfl
theorem eq_lnil {xs : List D} (h1 : PyData.canLayAll0 xs = true) (h2 : PyData.depthAll xs ≤ 60) : cop .eq (.list xs) (.list []) = some (decide (xs = [])) := by
  rw [cop_eqD (eqOk_shaped (shaped_list h1 h2) (by decide))]
  cases xs <;> rfl
theorem lay_ints : ∀ l : List Int, PyData.canLayAll0 (l.map PyData.int) = true ∧ PyData.depthAll (l.map PyData.int) ≤ 1
  | [] => ⟨rfl, Nat.zero_le _⟩
  | i :: l => by
    obtain ⟨h1, h2⟩ := lay_ints l
    refine ⟨h1, ?_⟩
    have h3 : PyData.depth (.int i) ≤ 1 := by simp [PyData.depth]
    show max (PyData.depth (.int i)) (PyData.depthAll (l.map PyData.int)) ≤ 1
    omega
theorem ne_ints (l : List Int) : cop .ne (.list (l.map PyData.int)) (.list []) = some (decide (l ≠ [])) := by
  rw [ne_lnil (lay_ints l).1 (by have := (lay_ints l).2; omega)]
  cases l <;> rfl
theorem eq_ints (l : List Int) : cop .eq (.list (l.map PyData.int)) (.list []) = some (decide (l = [])) := by
  rw [eq_lnil (lay_ints l).1 (by have := (lay_ints l).2; omega)]
  cases l <;> rfl
theorem len_tupD (l : List D) : b1 .len (.tuple l) = some (.d (.int l.length)) := rfl
theorem len_lstD (l : List D) : b1 .len (.list l) = some (.d (.int l.length)) := rfl
theorem tup_lD (l : List D) : b1 .tuple (.list l) = some (.d (.tuple l)) := rfl
theorem b2_max (i j : Int) : b2 .max (.int i) (.int j) = some (.int (if j > i then j else i)) := rfl
theorem b2_min (i j : Int) : b2 .min (.int i) (.int j) = some (.int (if j < i then j else i)) := rfl
theorem rng_map : ∀ (n : Nat) (i : Int), rng i n = ((List.range n).map fun k : Nat => i + (k : Int)).map PyData.int
  | 0, i => rfl
  | n + 1, i => by
    show PyData.int i :: rng (i + 1) n = _
    rw [rng_map n (i + 1), List.range_succ_eq_map, List.map_cons, List.map_map, List.map_cons, List.map_map, List.map_map]
    congr 1
    · show PyData.int i = .int (i + 0); rw [Int.add_zero]
    · apply List.map_congr_left
      intro k _
      show PyData.int (i + 1 + (k : Int)) = .int (i + ((k + 1 : Nat) : Int))
      rw [Int.natCast_add]
      congr 1
      omega
end Ev
namespace Ev
open PySem
theorem compO_flat {α : Type} {f : D → Env → Res (List D)} {i : Nat} {en : α → D} {g : α → List D} {xs : List α} {P : Env → Prop} (hm : ∀ r, P r → mutAt r i = some (.list (xs.map en))) (hf : ∀ x ∈ xs, ∀ r, P r → ∃ r', f (en x) r = .ok (g x) r' ∧ P r') :
    ∀ (n k : Nat) (r : Env), P r → k + n = xs.length → ∃ r', compO f i n k r = .ok ((xs.drop k).flatMap g) r' ∧ P r'
  | 0, k, r, h, hk => by
    refine ⟨r, ?_, h⟩
    unfold compO
    rw [hm r h]
    dsimp only
    rw [if_pos (by rw [List.length_map]; omega), List.drop_of_length_le (by omega)]
    rfl
  | n + 1, k, r, h, hk => by
    have hlt : k < xs.length := by omega
    obtain ⟨r1, e1, h1⟩ := hf xs[k] (List.getElem_mem hlt) r h
    obtain ⟨r2, e2, h2⟩ := compO_flat hm hf n (k + 1) r1 h1 (by omega)
    refine ⟨r2, ?_, h2⟩
    unfold compO
    rw [hm r h]
    dsimp only
    rw [List.getElem?_map, List.getElem?_eq_getElem hlt]
    dsimp only [Option.map]
    rw [e1]
    dsimp only
    rw [e2, List.drop_eq_getElem_cons hlt, List.flatMap_cons]
theorem cmo_fil {α : Type} {call : Nat → List Sl → CR} {nm : Str} {k i : Nat} {elt c : IE} {r : Env} {xs : List α} {en : α → D} (q : α → Bool) (g : α → D) (hki : k ≠ i) (hm : mutAt r i = some (.list (xs.map en))) (hk : r[k]? = some .un)
    (hc : ∀ x ∈ xs, (ev call c).2 (r.set k (.val (en x))) = .ok (q x) (r.set k (.val (en x))))
    (h : ∀ x ∈ xs, q x = true → (((ev call elt).1 (r.set k (.val (en x)))).bind fun y r5 => solidR r5 y) = .ok (g x) (r.set k (.val (en x)))) (hl : xs.length ≤ SZ) :
    (ev call (.cmo [(nm, k)] elt (.n k false) i (.yes c))).1 r = .ok (.f (.list ((xs.filter q).map g))) r := by
  have hwm : ∀ r', wipeE [k] r' = r → mutAt r' i = some (.list (xs.map en)) := fun r' hr => by
    rw [← hm, ← hr, mutAt_eq, mutAt_eq, wipeE_get, if_neg (by simpa using fun z => hki z.symm)]
  have e : xs.flatMap (fun x => if q x = true then [g x] else []) = (xs.filter q).map g := by
    clear hm hc h hl hwm
    induction xs with
    | nil => rfl
    | cons x xs ih =>
      rw [List.flatMap_cons, ih]
      by_cases hq : q x = true <;> simp [hq]
  obtain ⟨r2, e2, hr2⟩ := compO_flat (f := fun x r2 => (asn (.n k false) (.d x) (wipeE [k] r2)).bind fun _ r3 =>
          (evT call (.yes c) r3).bind fun ok r4 => match ok with
            | true => ((ev call elt).1 r4).bind fun y r5 => (solidR r5 y).bind fun v r6 => .ok [v] r6
            | false => .ok [] r4) (i := i) (en := en) (g := fun x => if q x = true then [g x] else []) (xs := xs) (P := fun r' => wipeE [k] r' = r) hwm (fun x hx r' hr => by
    refine ⟨r.set k (.val (en x)), ?_, wipe_set hk _⟩
    rw [hr, asn_un hk, bind_ok', t_yes, hc x hx, bind_ok']
    cases hq : q x with
    | false => rfl
    | true =>
      have e := h x hx hq
      dsimp only
      rw [if_pos rfl]
      revert e
      generalize (ev call elt).1 (r.set k (.val (en x))) = m
      intro e
      cases m with
      | ok y r5 =>
        have e' : solidR r5 y = .ok (g x) (r.set k (.val (en x))) := e
        show (solidR r5 y).bind _ = _
        rw [e']
        rfl
      | exc a b c => exact nomatch e
      | stuck => exact nomatch e) xs.length 0 r (wipe_un hk) (by omega)
  rw [List.drop_zero, e] at e2
  show (match mutAt r i with
    | some (.list xs) => if ([k].contains i) = true then Res.stuck else
      match compO _ i xs.length 0 r with
      | .ok ys r2 => if ys.length ≤ SZ then Res.ok (TV.f (.list ys)) (backE r [k] r2) else .stuck
      | _ => .stuck
    | _ => .stuck) = _
  rw [hm]
  dsimp only
  rw [if_neg (by simpa using fun z : i = k => hki z.symm), List.length_map]
  exact (show ∀ m, m = Res.ok ((xs.filter q).map g) r2 → (match m with
      | .ok ys r2 => if ys.length ≤ SZ then Res.ok (TV.f (.list ys)) (backE r [k] r2) else .stuck
      | _ => .stuck) = Res.ok (TV.f (.list ((xs.filter q).map g))) r from fun m hm => by
    subst hm
    dsimp only
    rw [if_pos (by rw [List.length_map]; exact Nat.le_trans (List.length_filter_le _ _) hl), back_wipe (by rw [hr2, wipe_un hk])]) _ e2
end Ev

end
section
set_option maxRecDepth 100000
local macro_rules | `(tactic| simp! [$ts,*]) => `(tactic| simp only [Ev.bind_ok', Ev.bind_stuck', Ev.bind_ite, Ev.of_some', Ev.of_none', Ev.of_ite, Ev.slD_val, Ev.slD_own, Ev.slD_bor, Ev.deref_d, Ev.deref_f, Ev.deref_s, Ev.tru_eq, Ev.truS_some, Ev.truth_bool, Ev.truth_int, Ev.truth_list, Ev.truth_tuple, Ev.un1S_some, Ev.bi2S_some, Ev.andK_b, Ev.orK_b, Ev.negK_i, Ev.varK_val, Ev.varK_own, Ev.varK_bor, Ev.solS_val, Ev.solS_own, Ev.sol_d, Ev.sol_f, Ev.sol_s, Ev.muS_own, Ev.muS_bor, Ev.mutAt_eq, Ev.bop_add, Ev.bop_sub, Ev.bop_mul, Ev.bop_div, Ev.bop_mod, Ev.bop_tup, Ev.bop_lst, Ev.cop_lt, Ev.cop_le, Ev.cop_gt, Ev.cop_ge, Ev.cop_eqi, Ev.cop_eqs, Ev.cop_nei, Ev.cop_nes, Ev.cop_is, Ev.cop_isNot, Ev.cop_in, Ev.is_bb, Ev.e_none, Ev.e_bool, Ev.e_int, Ev.e_str, Ev.e_var, Ev.e_glob, Ev.e_bin, Ev.e_neg, Ev.e_cmp, Ev.chnS_some, Ev.e_chn, Ev.e_not, Ev.e_and, Ev.e_or, Ev.e_ife, Ev.e_tup, Ev.e_lst, Ev.e_idx, Ev.e_isi, Ev.e_bl1, Ev.e_bl2, Ev.callK_v, Ev.callK_f, Ev.callK_v1, Ev.callK_f1, Ev.callK_v2, Ev.argK_some, Ev.e_call, Ev.argsS_nil, Ev.argsS_v, Ev.argsS_l, Ev.lends_nil, Ev.lends_v, Ev.lends_l, Ev.a_nil, Ev.a_cons, Ev.r_nil, Ev.r_cons, Ev.lendK_some, Ev.r_lend, Ev.o_no, Ev.derK_some, Ev.o_yes, Ev.t_no, Ev.t_yes, Ev.i_val, Ev.slS_some, Ev.e_slc, Ev.opt_none, Ev.opt_int, Ev.slice_list, Ev.slice_tup, Ev.e_dsp, Ev.dicS_some, Ev.e_mg2, Ev.rgK_i, Ev.i_rg1, Ev.rgK2_i, Ev.i_rg2, Ev.enK_some, Ev.i_enm, Ev.zpK_some, Ev.i_zip, Ev.c_cst, Ev.c_var, Ev.c_cmp, Ev.c_chn, Ev.c_isi, Ev.c_call, Ev.c_bl1, Ev.c_not, Ev.c_and, Ev.c_or, Ev.c_ife, Ev.seqK_nx, Ev.seqK_brk, Ev.seqK_cnt, Ev.seqK_ret, Ev.seqK_exc, Ev.seqK_stuck, Ev.seqK_ite, Ev.b_nil, Ev.b_cons, Ev.retK_d, Ev.retK_f, Ev.s_ret, Ev.s_retN, Ev.s_asg, Ev.s_ex, Ev.s_if, Ev.s_for, Ev.s_whl, Ev.s_pas, Ev.s_rse, Ev.stoK_un, Ev.stoK_val, Ev.stoK_own, Ev.asn_d, Ev.asn_f, Ev.asn_fo, Ev.asn_t, Ev.asnL_nil, Ev.asnL_cons, Ev.asnP_nil, Ev.asnP_cons, Ev.s_asp, Ev.fK_f, Ev.fK_d, Ev.fK_s, Ev.f_nil, Ev.f_cons, Ev.lendF_some, Ev.setS_own, Ev.setS_bor, Ev.setAt_eq, Ev.ixK_some, Ev.setK_l, Ev.s_sto, Ev.outs_nil, Ev.outs_v, Ev.outs_b, Ev.endK_nx, Ev.endK_ret, Ev.endK_exc, Ev.endK_stuck, Ev.endK_ite, Ev.endS_some, Ev.endCall_eq, Ev.e_emp, Ev.e_din, Ev.e_dix, Ev.sdkS_some, Ev.e_sdk, Ev.e_tin, Ev.e_tix, Ev.e_tg1, Ev.e_tg2, Ev.e_sdt, Ev.c_din, Ev.c_tin, Ev.s_dst, Ev.s_tst, Ev.isN_none, Ev.isN_bool, Ev.isN_int, Ev.isN_str, Ev.isN_list, Ev.isN_tup, Ev.isN_dict, Ev.e_mg1, Ev.appL_l, Ev.appK_l, Ev.s_app, Ev.nd_none, Ev.ty_int_none, Ev.ty_bool_none, Ev.ty_str_none, Ev.ty_tuple_none, Ev.ty_list_none, Ev.nd_bool, Ev.ty_int_bool, Ev.ty_bool_bool, Ev.ty_str_bool, Ev.ty_tuple_bool, Ev.ty_list_bool, Ev.nd_int, Ev.ty_int_int, Ev.ty_bool_int, Ev.ty_str_int, Ev.ty_tuple_int, Ev.ty_list_int, Ev.nd_str, Ev.ty_int_str, Ev.ty_bool_str, Ev.ty_str_str, Ev.ty_tuple_str, Ev.ty_list_str, Ev.nd_list, Ev.ty_int_list, Ev.ty_bool_list, Ev.ty_str_list, Ev.ty_tuple_list, Ev.ty_list_list, Ev.nd_tup, Ev.ty_int_tup, Ev.ty_bool_tup, Ev.ty_str_tup, Ev.ty_tuple_tup, Ev.ty_list_tup, Ev.nd_dict, Ev.ty_int_dict, Ev.ty_bool_dict, Ev.ty_str_dict, Ev.ty_tuple_dict, Ev.ty_list_dict, List.getElem?_cons_zero, List.getElem?_cons_succ, List.getElem?_nil, List.set_cons_zero, List.set_cons_succ, List.length_cons, List.length_nil, List.replicate_succ, List.replicate_zero, List.cons_append, List.nil_append, List.append_nil, List.nodup_nil, List.nodup_cons, List.mem_cons, List.not_mem_nil, List.isEmpty_nil, List.isEmpty_cons, Option.map_some, Option.map_none, Option.bind_some, Option.bind_none, Option.getD_some, Option.getD_none, Option.isSome_some, Option.isSome_none, Option.isNone_some, Option.isNone_none, ite_true, ite_false, if_true, if_false, decide_true, decide_false, decide_eq_true_eq, Bool.not_true, Bool.not_false, Bool.not_not, Bool.true_and, Bool.false_and, Bool.and_true, Bool.and_false, Bool.or_true, Bool.or_false, Bool.true_or, Bool.false_or, Bool.not_eq_true, Bool.not_eq_true', Bool.and_self, Bool.or_self, Bool.false_eq_true, reduceCtorEq, not_true_eq_false, not_false_eq_true, or_false, false_or, or_true, true_or, and_true, true_and, and_false, false_and, eq_self, bne_self_eq_false, Nat.reduceAdd, Nat.reduceSub, Nat.reduceLeDiff, Nat.reduceLT, Nat.reduceEqDiff, Nat.zero_add, Nat.reduceMul, Int.reduceNeg, Int.reduceAdd, Int.reduceSub, Int.reduceMul, Int.reduceLT, Int.reduceLE, Int.reduceEq, Int.reduceDiv, Int.reduceMod, Int.reduceToNat, Int.reducePow, Nat.succ_ne_zero, Nat.add_eq_zero_iff, Nat.le_refl, Nat.one_ne_zero, ↓reduceIte, Ev.SZ, $ts,*])
set_option linter.all false
set_option maxHeartbeats 4000000
/-! Dicts from pairs of inR to values; lists of inR in a row. -/
namespace Ev
open PySem
def inR (lo : Int) (n : Nat) : List Int := (List.range n).map fun k : Nat => lo + (k : Int)
theorem rng_inR (lo : Int) (n : Nat) : rng lo n = (inR lo n).map PyData.int := rng_map n lo
theorem mem_inR {lo x : Int} {n : Nat} : x ∈ inR lo n ↔ lo ≤ x ∧ x < lo + n := by
  unfold inR
  rw [List.mem_map]
  constructor
  · rintro ⟨k, hk, rfl⟩
    have := List.mem_range.mp hk
    omega
  · rintro ⟨h1, h2⟩
    exact ⟨(x - lo).toNat, List.mem_range.mpr (by omega), by omega⟩
theorem inR_nodup (lo : Int) (n : Nat) : (inR lo n).Nodup := by
  unfold inR
  exact List.Pairwise.map _ (fun a b h => by intro e; apply h; omega) List.nodup_range
theorem inR_len (lo : Int) (n : Nat) : (inR lo n).length = n := by unfold inR; rw [List.length_map, List.length_range]
theorem inR_sorted (lo : Int) (n : Nat) : (inR lo n).Pairwise (· < ·) := by
  unfold inR
  rw [List.pairwise_map]
  exact List.Pairwise.imp (fun h => by omega) List.pairwise_lt_range
theorem inR_succ (lo : Int) (n : Nat) : inR lo (n + 1) = inR lo n ++ [lo + n] := by
  unfold inR
  rw [List.range_succ, List.map_append]
  rfl
theorem inR_cons (lo : Int) (n : Nat) : inR lo (n + 1) = lo :: inR (lo + 1) n := by
  unfold inR
  rw [List.range_succ_eq_map, List.map_cons, List.map_map]
  congr 1
  · show lo + 0 = lo; omega
  · apply List.map_congr_left
    intro k _
    show lo + ((k + 1 : Nat) : Int) = lo + 1 + (k : Int)
    omega
/-! pairs as keys -/
section
variable {β : Type} (ev : β → D)
def encK (p : (Int × Int) × β) : D × D := (.tuple [.int p.1.1, .int p.1.2], ev p.2)
def dicD (ps : List ((Int × Int) × β)) : D := .dict (markT :: ps.map (encK ev))
def lookP (ps : List ((Int × Int) × β)) (i j : Int) : Option β := (ps.find? fun p => p.1.1 == i && p.1.2 == j).map (·.2)
theorem tkIs_K (p : (Int × Int) × β) (i j : Int) : tkIs (encK ev p).1 [.int i, .int j] = (p.1.1 == i && p.1.2 == j) := by
  show (p.1.1 == i && (p.1.2 == j && true)) = _
  rw [Bool.and_true]
theorem lookT_K : ∀ (ps : List ((Int × Int) × β)) (i j : Int), lookT (ps.map (encK ev)) [.int i, .int j] = (lookP ps i j).map ev
  | [], i, j => rfl
  | p :: ps, i, j => by
    show (if tkIs (encK ev p).1 [.int i, .int j] = true then some (ev p.2) else lookT (ps.map (encK ev)) [.int i, .int j]) = _
    rw [tkIs_K, lookT_K ps i j]
    unfold lookP
    rw [List.find?_cons]
    cases h : (p.1.1 == i && p.1.2 == j) <;> rfl
theorem getT_K (ps : List ((Int × Int) × β)) (i j : Int) : getT (dicD ev ps) [.int i, .int j] = some ((lookP ps i j).map ev) := by
  show (if (([PyData.int i, .int j].all isKey && decide ([PyData.int i, .int j].length ≤ SZ)) = true) then some (lookT (ps.map (encK ev)) [.int i, .int j]) else none) = _
  rw [lookT_K]
  exact if_pos (by rfl)
theorem lookP_iff {ps : List ((Int × Int) × β)} (h : (ps.map (·.1)).Nodup) (i j : Int) (q : β) : lookP ps i j = some q ↔ ((i, j), q) ∈ ps := by
  induction ps with
  | nil => simp [lookP]
  | cons p ps ih =>
    have hn := List.nodup_cons.mp (show (p.1 :: ps.map (·.1)).Nodup from h)
    have ih := ih hn.2
    unfold lookP at ih ⊢
    rw [List.find?_cons]
    obtain ⟨⟨a, b⟩, c⟩ := p
    cases hp : (((a, b), c) : (Int × Int) × β).1.1 == i && (((a, b), c) : (Int × Int) × β).1.2 == j with
    | true =>
      obtain ⟨h1, h2⟩ : a = i ∧ b = j := by simpa using hp
      subst h1; subst h2
      constructor
      · intro e
        cases (Option.some.inj e : c = q)
        exact List.mem_cons_self
      · intro e
        rcases List.mem_cons.mp e with e | e
        · cases e; rfl
        · exact absurd (List.mem_map.mpr ⟨_, e, rfl⟩) hn.1
    | false =>
      rw [List.mem_cons]
      have hne : ¬ (a = i ∧ b = j) := by simpa using hp
      constructor
      · intro e
        exact .inr (ih.mp e)
      · rintro (e | e)
        · cases e; exact absurd ⟨rfl, rfl⟩ hne
        · exact ih.mpr e
theorem putT_K {ps : List ((Int × Int) × β)} {i j : Int} (h : (i, j) ∉ ps.map (·.1)) (v : β) : putT (ps.map (encK ev)) [.int i, .int j] (ev v) = (ps ++ [((i, j), v)]).map (encK ev) := by
  have hf : ((ps.map (encK ev)).any fun p => tkIs p.1 [.int i, .int j]) = false := by
    rw [List.any_eq_false]
    intro p hp
    obtain ⟨q, hq, rfl⟩ := List.mem_map.mp hp
    rw [tkIs_K]
    intro e
    apply h
    obtain ⟨h1, h2⟩ : q.1.1 = i ∧ q.1.2 = j := by simpa using e
    exact List.mem_map.mpr ⟨q, hq, by rw [← h1, ← h2]⟩
  unfold putT
  rw [hf, if_neg (by decide), List.map_append]
  rfl
theorem mrgS_K {ps : List ((Int × Int) × β)} {i j : Int} (h : (i, j) ∉ ps.map (·.1)) (v : β) (hl : ps.length < SZ) : mrgS (dicD ev ps) [.int i, .int j] (ev v) = some (dicD ev (ps ++ [((i, j), v)])) := by
  show (if ((([PyData.int i, .int j].all isKey && decide ([PyData.int i, .int j].length ≤ SZ)) && decide ((ps.map (encK ev)).length < SZ)) = true) then some (PyData.dict (markT :: putT (ps.map (encK ev)) [.int i, .int j] (ev v))) else none) = _
  rw [putT_K ev h]
  refine if_pos ?_
  rw [List.length_map, decide_eq_true hl]
  rfl
def hsh (k : Int × Int) : Int := hashI [k.1, k.2]
theorem hashesT_K : ∀ ps : List ((Int × Int) × β), hashesT (ps.map (encK ev)) = some (ps.map fun p => hsh p.1)
  | [] => rfl
  | p :: ps => by
    show (match some [p.1.1, p.1.2], hashesT (ps.map (encK ev)) with
      | some l, some hs => some (hashI l :: hs)
      | _, _ => none) = _
    rw [hashesT_K ps]
    rfl
theorem nodupI_iff : ∀ l : List Int, nodupI l = true ↔ l.Nodup
  | [] => ⟨fun _ => List.nodup_nil, fun _ => rfl⟩
  | x :: l => by
    show (!l.contains x && nodupI l) = true ↔ _
    rw [Bool.and_eq_true, nodupI_iff l, List.nodup_cons]
    simp
theorem mrgT_K {K : List (Int × Int)} (hK : ∀ a ∈ K, ∀ b ∈ K, hsh a = hsh b → a = b) {ps : List ((Int × Int) × β)} {i j : Int} (hn : (ps.map (·.1)).Nodup) (hk : ∀ p ∈ ps, p.1 ∈ K) (h : (i, j) ∉ ps.map (·.1)) (v : β) (hl : ps.length < SZ) : mrgT (dicD ev ps) [.int i, .int j] (ev v) = some (dicD ev (ps ++ [((i, j), v)])) := by
  show (match hashesT (ps.map (encK ev)) with
    | some hs => if ((([PyData.int i, .int j].all isKey && decide ([PyData.int i, .int j].length ≤ SZ)) && nodupI hs && decide ((ps.map (encK ev)).length < SZ)) = true) then some (PyData.dict (markT :: putT (ps.map (encK ev)) [.int i, .int j] (ev v))) else none
    | none => none) = _
  rw [hashesT_K, putT_K ev h]
  have e : nodupI (ps.map fun p => hsh p.1) = true := by
    rw [nodupI_iff]
    rw [List.nodup_iff_pairwise_ne] at hn ⊢
    rw [List.pairwise_map] at hn ⊢
    refine List.Pairwise.imp_of_mem ?_ hn
    intro a b ha hb hab e
    exact hab (hK _ (hk a ha) _ (hk b hb) e)
  show (if ((([PyData.int i, .int j].all isKey && decide ([PyData.int i, .int j].length ≤ SZ)) && nodupI (ps.map fun p => hsh p.1) && decide ((ps.map (encK ev)).length < SZ)) = true) then _ else none) = _
  refine if_pos ?_
  rw [List.length_map, decide_eq_true hl, e]
  rfl
end
/-! inR as keys -/
section
variable {β : Type} (ev : β → D)
def encW (p : Int × β) : D × D := (.int p.1, ev p.2)
def wayD (ps : List (Int × β)) : D := .dict (ps.map (encW ev))
def lookW (ps : List (Int × β)) (i : Int) : Option β := (ps.find? fun p => p.1 == i).map (·.2)
theorem lookD_W : ∀ (ps : List (Int × β)) (i : Int), lookD (ps.map (encW ev)) (.int i) = (lookW ps i).map ev
  | [], i => rfl
  | p :: ps, i => by
    show (if (p.1 == i) = true then some (ev p.2) else lookD (ps.map (encW ev)) (.int i)) = _
    rw [lookD_W ps i]
    unfold lookW
    rw [List.find?_cons]
    cases h : (p.1 == i) <;> rfl
theorem keys_W (ps : List (Int × β)) : (ps.map (encW ev)).all (fun p => isKey p.1) = true := by
  rw [List.all_eq_true]
  intro p hp
  obtain ⟨q, _, rfl⟩ := List.mem_map.mp hp
  rfl
theorem getD1_W (ps : List (Int × β)) (i : Int) : getD1 (wayD ev ps) (.int i) = some ((lookW ps i).map ev) := by
  show (if (isKey (.int i) && (ps.map (encW ev)).all (fun p => isKey p.1)) = true then some (lookD (ps.map (encW ev)) (.int i)) else none) = _
  rw [lookD_W, keys_W]
  rfl
theorem mrgK_W {ps : List (Int × β)} {i : Int} (h : i ∉ ps.map (·.1)) (v : β) (hl : ps.length < SZ) : mrgK (wayD ev ps) (.int i) (ev v) = some (wayD ev (ps ++ [(i, v)])) := by
  have hf : ((ps.map (encW ev)).any fun p => keyIs p.1 (.int i)) = false := by
    rw [List.any_eq_false]
    intro p hp
    obtain ⟨q, hq, rfl⟩ := List.mem_map.mp hp
    intro e
    apply h
    have : q.1 = i := by simpa [keyIs, encW] using e
    exact List.mem_map.mpr ⟨q, hq, this⟩
  show (if (isKey (.int i) && (ps.map (encW ev)).all (fun p => isKey p.1) && decide ((ps.map (encW ev)).length < SZ)) = true then some (PyData.dict (putD (ps.map (encW ev)) (.int i) (ev v))) else none) = _
  have hp : putD (ps.map (encW ev)) (.int i) (ev v) = (ps ++ [(i, v)]).map (encW ev) := by
    unfold putD
    rw [hf, if_neg (by decide), List.map_append]
    rfl
  rw [hp, keys_W, List.length_map, decide_eq_true hl]
  rfl
theorem lookW_mem {ps : List (Int × β)} {i : Int} {v : β} (h : lookW ps i = some v) : (i, v) ∈ ps := by
  unfold lookW at h
  cases hf : ps.find? fun p => p.1 == i with
  | none => rw [hf] at h; exact nomatch h
  | some p =>
    rw [hf] at h
    have h1 := List.find?_some hf
    have h2 := List.mem_of_find?_eq_some hf
    have h3 : p.1 = i := by simpa using h1
    have h4 : p.2 = v := Option.some.inj h
    rw [← h3, ← h4]
    exact h2
theorem lookW_some {ps : List (Int × β)} {i : Int} : (lookW ps i).isSome = decide (i ∈ ps.map (·.1)) := by
  unfold lookW
  rw [Option.isSome_map]
  rw [Bool.eq_iff_iff, List.find?_isSome, decide_eq_true_iff, List.mem_map]
  constructor
  · rintro ⟨x, h1, h2⟩; exact ⟨x, h1, by simpa using h2⟩
  · rintro ⟨x, h1, h2⟩; exact ⟨x, h1, by simpa using h2⟩
end
end Ev
namespace Ev
open PySem
theorem small_in {j : Int} (h : -1000000000 ≤ j) (h2 : j ≤ 1000000000) : small62 j = true := by
  unfold small62 P62
  simp
  omega
theorem rg2_in {call : Nat → List Sl → CR} {x y : IE} {r : Ev.Env} {i j : Int} (h1 : (ev call x).1 r = .ok (.d (.int i)) r) (h2 : (ev call y).1 r = .ok (.d (.int j)) r) (hi : -1000000000 ≤ i ∧ i ≤ 1000000000) (hj : -1000000000 ≤ j ∧ j ≤ 1000000000) : evI call (.rg2 x y) r = .ok ((inR i (j - i).toNat).map PyData.int) r := by
  rw [i_rg2, h1, bind_ok', h2, bind_ok', deref_d, deref_d, rgK2_i, if_pos (by rw [small_in hi.1 hi.2, small_in hj.1 hj.2]; rfl), rng_inR]
theorem rg1_in {call : Nat → List Sl → CR} {x : IE} {r r' : Ev.Env} {j : Int} (h1 : (ev call x).1 r = .ok (.d (.int j)) r') (hj : -1000000000 ≤ j ∧ j ≤ 1000000000) : evI call (.rg1 x) r = .ok ((inR 0 j.toNat).map PyData.int) r' := by
  rw [i_rg1, h1, bind_ok', deref_d, rgK_i, if_pos (small_in hj.1 hj.2), rng_inR]
theorem rg1_inN {call : Nat → List Sl → CR} {x : IE} {r r' : Ev.Env} {n : Nat} (h1 : (ev call x).1 r = .ok (.d (.int n)) r') (hj : n ≤ 1000000000) : evI call (.rg1 x) r = .ok ((inR 0 n).map PyData.int) r' := by
  rw [rg1_in h1 (by omega), Int.toNat_natCast]
theorem inR_sz {lo : Int} {n : Nat} (h : n ≤ 1000000) : (inR lo n).length ≤ SZ := by
  rw [inR_len]
  exact Nat.le_trans h (by decide)
end Ev

end
section
set_option linter.all false
/-! A for loop that returns at the first item of a kind. -/
namespace Ev
open PySem
theorem for_search {α : Type} {f : D → Env → Res Fl} {en : α → D} (q : α → Bool) (v : α → D) (b : Bool) (I : Env → Prop) : ∀ (xs : List α),
    (∀ x ∈ xs, ∀ r, I r → (q x = true → ∃ r', f (en x) r = .ok (.ret b (v x)) r' ∧ I r') ∧ (q x = false → ∃ r', f (en x) r = .ok .nx r' ∧ I r')) →
    ∀ r, I r → ∃ r', I r' ∧ forL f (xs.map en) r = match xs.find? q with
      | some x => .ok (.ret b (v x)) r'
      | none => .ok .nx r'
  | [], _, r, h => ⟨r, h, rfl⟩
  | x :: xs, hf, r, h => by
    obtain ⟨h1, h2⟩ := hf x List.mem_cons_self r h
    rw [List.map_cons, List.find?_cons]
    cases hq : q x with
    | true =>
      obtain ⟨r', e, i⟩ := h1 hq
      exact ⟨r', i, for_ret e⟩
    | false =>
      obtain ⟨r', e, i⟩ := h2 hq
      obtain ⟨r2, i2, e2⟩ := for_search q v b I xs (fun y hy => hf y (List.mem_cons_of_mem _ hy)) r' i
      refine ⟨r2, i2, ?_⟩
      rw [for_nx e]
      exact e2
end Ev

end
section
set_option linter.all false
set_option maxRecDepth 100000
set_option maxHeartbeats 0
namespace K65
open PySem PySem.Spec PyProof.Rows L2 Ev
def f0 : Df := ⟨"is_whole", ["value", "low", "high"], 3, (.cons (.ret (.and (.isi (.var 0) .int) (.and (.not (.isi (.var 0) .bool)) (.chn .le .le (.var 1) (.var 0) (.var 2))))) .nil)⟩
def f1 : Df := ⟨"is_row_of", ["value", "low", "high"], 3, (.cons (.ret (.and (.isi (.var 0) .tuple) (.chn .le .le (.var 1) (.bl1 .len (.var 0)) (.var 2)))) .nil)⟩
def f2 : Df := ⟨"fits_sign", ["value"], 1, (.cons (.ret (.and (.isi (.var 0) .str) (.and (.cmp .eq (.bl1 .len (.var 0)) (.cst (.int 1))) (.cmp .inn (.var 0) (.glob "SIGNS" (.str "abcdefghijklmnopqrstuvwxyzABCDEFGHIJKLMNOPQRSTUVWXYZ0123456789 !#$&'()*+,-./:;<=>?\x40[]^_`{|}~\"\n")))))) .nil)⟩
def f3_c0 : IE := .cm1 [("at", 1)] (.and (.call 0 "is_whole" (.cons (.idx (.var 0) (.var 1)) (.cons (.cst (.int 0)) (.cons (.glob "AMOUNT" (.int 100)) .nil)))) (.call 0 "is_whole" (.cons (.idx (.var 0) (.bin .add (.var 1) (.cst (.int 1)))) (.cons (.cst (.int 0)) (.cons (.cst (.int 2)) .nil))))) (.n 1 false) (.val (.tup (.cons (.glob "STRETCH" (.int 2)) (.cons (.glob "SHRINK" (.int 4)) .nil)))) .no
def f3 : Df := ⟨"fits_thing", ["value", "at"], 1, (.cons (.ifs (.or (.not (.call 1 "is_row_of" (.cons (.var 0) (.cons (.cst (.int 2)) (.cons (.cst (.int 6)) .nil))))) (.not (.isi (.idx (.var 0) (.cst (.int 0))) .str))) (.cons (.ret (.cst (.bool false))) .nil) .nil) (.cons (.ifs (.cmp .eq (.idx (.var 0) (.cst (.int 0))) (.cst (.str "space"))) (.cons (.ifs (.or (.cmp .ne (.bl1 .len (.var 0)) (.cst (.int 6))) (.not (.call 0 "is_whole" (.cons (.idx (.var 0) (.cst (.int 1))) (.cons (.neg (.glob "FAR" (.int 1000000))) (.cons (.glob "FAR" (.int 1000000)) .nil)))))) (.cons (.ret (.cst (.bool false))) .nil) .nil) (.cons (.ret (.bl1 .all f3_c0)) .nil)) .nil) (.cons (.ifs (.cmp .ne (.bl1 .len (.var 0)) (.cst (.int 2))) (.cons (.ret (.cst (.bool false))) .nil) .nil) (.cons (.ifs (.cmp .eq (.idx (.var 0) (.cst (.int 0))) (.cst (.str "sign"))) (.cons (.ret (.call 2 "fits_sign" (.cons (.idx (.var 0) (.cst (.int 1))) .nil))) .nil) .nil) (.cons (.ifs (.cmp .inn (.idx (.var 0) (.cst (.int 0))) (.tup (.cons (.cst (.str "kern")) (.cons (.cst (.str "place")) .nil)))) (.cons (.ret (.ife (.cmp .eq (.idx (.var 0) (.cst (.int 0))) (.cst (.str "kern"))) (.call 0 "is_whole" (.cons (.idx (.var 0) (.cst (.int 1))) (.cons (.neg (.glob "FAR" (.int 1000000))) (.cons (.glob "FAR" (.int 1000000)) .nil)))) (.call 0 "is_whole" (.cons (.idx (.var 0) (.cst (.int 1))) (.cons (.neg (.glob "DEAR" (.int 10000))) (.cons (.glob "DEAR" (.int 10000)) .nil)))))) .nil) .nil) (.cons (.ret (.and (.cmp .eq (.idx (.var 0) (.cst (.int 0))) (.cst (.str "box"))) (.isi (.idx (.var 0) (.cst (.int 1))) .tuple))) .nil))))))⟩
def f4_c0 : IE := .cm1 [("thing", 7)] (.var 7) (.n 7 false) (.val (.var 4)) (.yes (.cmp .eq (.idx (.var 7) (.cst (.int 0))) (.cst (.str "space"))))
def f4_c1 : IE := .cm1 [("thing", 7)] (.tup (.cons (.idx (.var 7) (.cst (.int 1))) (.cons (.bin .add (.var 5) (.cst (.int 1))) .nil))) (.n 7 false) (.val (.var 4)) (.yes (.cmp .eq (.idx (.var 7) (.cst (.int 0))) (.cst (.str "box"))))
def f4_c2 : IE := .cm1 [("thing", 7)] (.call 3 "fits_thing" (.cons (.var 7) .nil)) (.n 7 false) (.val (.var 4)) .no
def f4_b0 : IB := (.cons (.asp [(.t [(.n 4 false), (.n 5 false)]), (.n 1 false)] (.cons (.idx (.var 1) (.neg (.cst (.int 1)))) (.cons (.slc (.var 1) .no (.yes (.neg (.cst (.int 1))))) .nil))) (.cons (.ifs (.or (.not (.isi (.var 4) .tuple)) (.or (.cmp .gt (.bin .add (.var 2) (.bl1 .len (.var 4))) (.glob "MANY" (.int 60))) (.not (.bl1 .all f4_c2)))) (.cons (.ret (.cst .none)) .nil) .nil) (.cons (.asg (.n 2 false) (.bin .add (.var 2) (.bl1 .len (.var 4)))) (.cons (.asg (.n 6 false) f4_c1) (.cons (.ifs (.and (.cmp .ne (.var 6) (.lst .nil)) (.cmp .gt (.var 5) (.glob "OTHERS" (.int 5)))) (.cons (.ret (.cst .none)) .nil) .nil) (.cons (.asp [(.n 1 false), (.n 3 false)] (.cons (.bin .add (.var 1) (.var 6)) (.cons (.bin .add (.var 3) f4_c0) .nil))) .nil))))))
def f4_l0 : IS := .whl (.cmp .ne (.var 1) (.lst .nil)) f4_b0
def f4 : Df := ⟨"spaces_in", ["value", "line", "count", "found", "here", "depth", "boxes", "thing"], 1, (.cons (.asp [(.n 1 false), (.n 2 false), (.n 3 false)] (.cons (.lst (.cons (.tup (.cons (.var 0) (.cons (.cst (.int 0)) .nil))) .nil)) (.cons (.cst (.int 0)) (.cons (.lst .nil) .nil)))) (.cons f4_l0 (.cons (.ret (.var 3)) .nil)))⟩
def f5_c0 : IE := .cm1 [("thing", 3)] (.idx (.var 3) (.var 1)) (.n 3 false) (.val (.var 0)) (.yes (.cmp .eq (.idx (.var 3) (.bin .add (.var 1) (.cst (.int 1)))) (.var 2)))
def f5 : Df := ⟨"sum_with", ["spaces", "column", "order", "thing"], 3, (.cons (.ret (.bl1 .sum f5_c0)) .nil)⟩
def f6_c0 : IE := .cm2 [("column", 2), ("order", 3)] [3] (.cmp .le (.call 5 "sum_with" (.cons (.var 1) (.cons (.var 2) (.cons (.var 3) .nil)))) (.glob "SUM" (.int 300))) (.n 2 false) (.val (.tup (.cons (.glob "STRETCH" (.int 2)) (.cons (.glob "SHRINK" (.int 4)) .nil)))) .no (.n 3 false) (.val (.tup (.cons (.cst (.int 0)) (.cons (.cst (.int 1)) (.cons (.cst (.int 2)) .nil))))) .no
def f6 : Df := ⟨"fits_strip", ["value", "spaces", "column", "order"], 1, (.cons (.asg (.n 1 false) (.call 4 "spaces_in" (.cons (.var 0) .nil))) (.cons (.ifs (.cmp .is (.var 1) (.cst .none)) (.cons (.ret (.cst (.bool false))) .nil) .nil) (.cons (.ret (.bl1 .all f6_c0)) .nil)))⟩
def f7_c0 : IE := .cm1 [("at", 1), ("thing", 2)] (.var 1) (.t [(.n 1 false), (.n 2 false)]) (.enm (.var 0)) (.yes (.cmp .eq (.idx (.var 2) (.cst (.int 0))) (.cst (.str "place"))))
def f7 : Df := ⟨"places_at", ["strip", "at", "thing"], 1, (.cons (.ret f7_c0) .nil)⟩
def f8 : Df := ⟨"fits_passage", ["value"], 1, (.cons (.ifs (.or (.not (.call 6 "fits_strip" (.cons (.var 0) .nil))) (.or (.cmp .eq (.var 0) (.tup .nil)) (.cmp .ne (.idx (.idx (.var 0) (.neg (.cst (.int 1)))) (.cst (.int 0))) (.cst (.str "place"))))) (.cons (.ret (.cst (.bool false))) .nil) .nil) (.cons (.ret (.cmp .le (.bl1 .len (.call 7 "places_at" (.cons (.var 0) .nil))) (.glob "PLACES" (.int 10)))) .nil))⟩
def f9 : Df := ⟨"need_passage", ["value"], 1, (.cons (.ifs (.not (.call 8 "fits_passage" (.cons (.var 0) .nil))) (.cons (.rse "InvalidPassage") .nil) .nil) .nil)⟩
def f10 : Df := ⟨"wide", ["thing"], 1, (.cons (.ifs (.cmp .eq (.idx (.var 0) (.cst (.int 0))) (.cst (.str "box"))) (.cons (.ret (.call 11 "sum_of" (.cons (.idx (.var 0) (.cst (.int 1))) .nil))) .nil) .nil) (.cons (.ret (.ife (.cmp .eq (.idx (.var 0) (.cst (.int 0))) (.cst (.str "sign"))) (.glob "SIGN" (.int 10)) (.ife (.cmp .eq (.idx (.var 0) (.cst (.int 0))) (.cst (.str "place"))) (.cst (.int 0)) (.idx (.var 0) (.cst (.int 1)))))) .nil))⟩
def f11_c0 : IE := .cm1 [("thing", 1)] (.call 10 "wide" (.cons (.var 1) .nil)) (.n 1 false) (.val (.var 0)) .no
def f11 : Df := ⟨"sum_of", ["strip", "thing"], 1, (.cons (.ret (.bl1 .sum f11_c0)) .nil)⟩
def f12_c0 : IE := .cm1 [("thing", 1)] (.var 1) (.n 1 false) (.val (.var 0)) (.yes (.cmp .eq (.idx (.var 1) (.cst (.int 0))) (.cst (.str "space"))))
def f12 : Df := ⟨"own_spaces", ["strip", "thing"], 1, (.cons (.ret f12_c0) .nil)⟩
def f13 : Df := ⟨"need_number", ["value", "low", "high"], 3, (.cons (.ifs (.not (.call 0 "is_whole" (.cons (.var 0) (.cons (.var 1) (.cons (.var 2) .nil))))) (.cons (.rse "InvalidNumber") .nil) .nil) .nil)⟩
def f14_b0 : IB := (.cons (.asg (.n 4 false) (.slc (.var 4) (.yes (.cst (.int 1))) .no)) .nil)
def f14_l0 : IS := .whl (.and (.cmp .ne (.var 4) (.tup .nil)) (.cmp .notIn (.idx (.idx (.var 4) (.cst (.int 0))) (.cst (.int 0))) (.tup (.cons (.cst (.str "sign")) (.cons (.cst (.str "box")) .nil))))) f14_b0
def f14 : Df := ⟨"line_in", ["passage", "first", "last", "places", "line"], 3, (.cons (.asg (.n 3 false) (.call 7 "places_at" (.cons (.var 0) .nil))) (.cons (.asg (.n 4 false) (.slc (.var 0) (.yes (.ife (.cmp .lt (.var 1) (.cst (.int 0))) (.cst (.int 0)) (.bin .add (.idx (.var 3) (.var 1)) (.cst (.int 1))))) (.yes (.idx (.var 3) (.var 2))))) (.cons f14_l0 (.cons (.ret (.var 4)) .nil))))⟩
def f15_c0 : IE := .cm1 [("thing", 3)] (.idx (.var 3) (.var 1)) (.n 3 false) (.val (.var 2)) .no
def f15_c1 : IE := .cm1 [("thing", 3)] (.and (.cmp .gt (.idx (.var 3) (.var 1)) (.cst (.int 0))) (.cmp .gt (.idx (.var 3) (.bin .add (.var 1) (.cst (.int 1)))) (.cst (.int 0)))) (.n 3 false) (.val (.var 2)) .no
def f15 : Df := ⟨"slack", ["line", "column", "spaces", "thing"], 2, (.cons (.asg (.n 2 false) (.call 12 "own_spaces" (.cons (.var 0) .nil))) (.cons (.ifs (.bl1 .any f15_c1) (.cons (.ret (.cst .none)) .nil) .nil) (.cons (.ret (.bl1 .sum f15_c0)) .nil)))⟩
def f16 : Df := ⟨"fit_of", ["passage", "much", "first", "last", "line", "whole", "more", "less", "least", "greatest"], 4, (.cons (.asg (.n 4 false) (.call 14 "line_in" (.cons (.var 0) (.cons (.var 2) (.cons (.var 3) .nil))))) (.cons (.asp [(.n 5 false), (.n 6 false), (.n 7 false)] (.cons (.call 11 "sum_of" (.cons (.var 4) .nil)) (.cons (.call 15 "slack" (.cons (.var 4) (.cons (.glob "STRETCH" (.int 2)) .nil))) (.cons (.call 15 "slack" (.cons (.var 4) (.cons (.glob "SHRINK" (.int 4)) .nil))) .nil)))) (.cons (.asg (.n 8 false) (.ife (.cmp .is (.var 7) (.cst .none)) (.cst (.int 0)) (.bl2 .max (.cst (.int 0)) (.bin .sub (.var 5) (.var 7))))) (.cons (.asg (.n 9 false) (.ife (.cmp .is (.var 6) (.cst .none)) (.glob "GREATEST" (.int 1000000000)) (.bl2 .min (.glob "GREATEST" (.int 1000000000)) (.bin .add (.var 5) (.bin .mul (.var 1) (.var 6)))))) (.cons (.ret (.ife (.cmp .le (.var 8) (.var 9)) (.tup (.cons (.var 8) (.cons (.var 9) .nil))) (.cst .none))) .nil)))))⟩
def f17_b0 : IB := (.cons (.asg (.n 6 false) (.call 16 "fit_of" (.cons (.var 0) (.cons (.var 1) (.cons (.var 4) (.cons (.var 5) .nil)))))) (.cons (.ifs (.cmp .isNot (.var 6) (.cst .none)) (.cons (.asg (.n 3 false) (.sdt (.var 3) (.cons (.var 4) (.cons (.var 5) .nil)) (.var 6))) .nil) .nil) .nil))
def f17_l0 : IS := .fr (.n 5 false) (.rg2 (.bin .add (.var 4) (.cst (.int 1))) (.var 2)) f17_b0
def f17_b1 : IB := (.cons f17_l0 .nil)
def f17_l1 : IS := .fr (.n 4 false) (.rg2 (.neg (.cst (.int 1))) (.var 2)) f17_b1
def f17 : Df := ⟨"all_fits", ["passage", "much", "many", "found", "first", "last", "fit"], 2, (.cons (.asp [(.n 2 false), (.n 3 false)] (.cons (.bl1 .len (.call 7 "places_at" (.cons (.var 0) .nil))) (.cons (.emp true) .nil))) (.cons f17_l1 (.cons (.ret (.var 3)) .nil)))⟩
def f18 : Df := ⟨"is_fit", ["fits", "first", "last", "width", "pair"], 4, (.cons (.asg (.n 4 false) (.tg2 (.var 0) (.cons (.var 1) (.cons (.var 2) .nil)) (.tup (.cons (.cst (.int 0)) (.cons (.neg (.cst (.int 1))) .nil))))) (.cons (.ret (.chn .le .le (.idx (.var 4) (.cst (.int 0))) (.var 3) (.idx (.var 4) (.cst (.int 1))))) .nil))⟩
def f19_c0 : IE := .cm1 [("last", 6)] (.var 6) (.n 6 false) (.rg2 (.bin .add (.var 4) (.cst (.int 1))) (.var 1)) (.yes (.call 18 "is_fit" (.cons (.var 0) (.cons (.var 4) (.cons (.var 6) (.cons (.var 2) .nil))))))
def f19_b0 : IB := (.cons (.asg (.n 5 false) f19_c0) (.cons (.ifs (.cmp .eq (.var 5) (.lst .nil)) (.cons (.ret (.cst .none)) .nil) .nil) (.cons (.asp [(.n 3 false), (.n 4 false)] (.cons (.bin .add (.var 3) (.tup (.cons (.idx (.var 5) (.neg (.cst (.int 1)))) .nil))) (.cons (.idx (.var 5) (.neg (.cst (.int 1)))) .nil))) .nil)))
def f19_l0 : IS := .whl (.cmp .lt (.var 4) (.bin .sub (.var 1) (.cst (.int 1)))) f19_b0
def f19 : Df := ⟨"taken_by", ["fits", "many", "width", "found", "here", "later", "last"], 3, (.cons (.asp [(.n 3 false), (.n 4 false)] (.cons (.tup .nil) (.cons (.neg (.cst (.int 1))) .nil))) (.cons f19_l0 (.cons (.ret (.var 3)) .nil)))⟩
def f20_c0 : IE := .cm1 [("first", 6)] (.var 6) (.n 6 false) (.rg2 (.neg (.cst (.int 1))) (.var 4)) (.yes (.and (.din false (.var 6) (.var 3)) (.call 18 "is_fit" (.cons (.var 0) (.cons (.var 6) (.cons (.var 4) (.cons (.var 2) .nil)))))))
def f20_b0 : IB := (.cons (.asg (.n 5 false) f20_c0) (.cons (.ifs (.cmp .ne (.var 5) (.lst .nil)) (.cons (.asg (.n 3 false) (.sdk (.var 3) (.var 4) (.bin .add (.dix (.var 3) (.idx (.var 5) (.cst (.int 0)))) (.tup (.cons (.var 4) .nil))))) .nil) .nil) .nil))
def f20_l0 : IS := .fr (.n 4 false) (.rg1 (.var 1)) f20_b0
def f20 : Df := ⟨"lines_by", ["fits", "many", "width", "ways", "last", "firsts", "first"], 3, (.cons (.asg (.n 3 false) (.dsp [(.int (-1))] (.cons (.tup .nil) .nil))) (.cons f20_l0 (.cons (.ret (.mg1 (.var 3) (.bin .sub (.var 1) (.cst (.int 1))))) .nil)))⟩
def f21_b0 : IB := (.cons (.ifs (.and (.cmp .isNot (.call 20 "lines_by" (.cons (.var 2) (.cons (.var 3) (.cons (.var 5) .nil)))) (.cst .none)) (.cmp .is (.call 19 "taken_by" (.cons (.var 2) (.cons (.var 3) (.cons (.var 5) .nil)))) (.cst .none))) (.cons (.ret (.var 5)) .nil) .nil) .nil)
def f21_l0 : IS := .fr (.n 5 false) (.val (.un .sst (.var 4))) f21_b0
def f21_c0 : IE := .cm1 [("pair", 6)] (.idx (.var 6) (.cst (.int 0))) (.n 6 false) (.val (.un .lvs (.var 2))) .no
def f21_c1 : IE := .cm1 [("pair", 6)] (.bin .add (.idx (.var 6) (.cst (.int 1))) (.cst (.int 1))) (.n 6 false) (.val (.un .lvs (.var 2))) .no
def f21 : Df := ⟨"parting_taken", ["passage", "much", "fits", "many", "ends", "width", "pair"], 2, (.cons (.asp [(.n 2 false), (.n 3 false)] (.cons (.call 17 "all_fits" (.cons (.var 0) (.cons (.var 1) .nil))) (.cons (.bl1 .len (.call 7 "places_at" (.cons (.var 0) .nil))) .nil))) (.cons (.asg (.n 4 false) (.bin .add f21_c0 f21_c1)) (.cons f21_l0 (.cons (.ret (.cst .none)) .nil))))⟩
def f22 : Df := ⟨"may_take", ["passage", "much"], 2, (.cons (.ex (.call 9 "need_passage" (.cons (.var 0) .nil))) (.cons (.ex (.call 13 "need_number" (.cons (.var 1) (.cons (.cst (.int 0)) (.cons (.glob "MUCH" (.int 10)) .nil))))) (.cons (.ret (.cmp .is (.call 21 "parting_taken" (.cons (.var 0) (.cons (.var 1) .nil))) (.cst .none))) .nil)))⟩
def f23 : Df := ⟨"taking_shown", ["passage", "much"], 2, (.cons (.ex (.call 9 "need_passage" (.cons (.var 0) .nil))) (.cons (.ex (.call 13 "need_number" (.cons (.var 1) (.cons (.cst (.int 0)) (.cons (.glob "MUCH" (.int 10)) .nil))))) (.cons (.ret (.call 21 "parting_taken" (.cons (.var 0) (.cons (.var 1) .nil)))) .nil)))⟩
def f24 : Df := ⟨"_law_cup", ["_law_script", "_law_cell", "_law_great"], 1, (.cons (.asg (.n 1 false) (.bl1 .abs (.idx (.bin .add (.bl1 .list (.var 0)) (.lst (.cons (.cst (.int 0)) .nil))) (.cst (.int 0))))) (.cons (.asg (.n 2 false) (.ife (.cmp .ge (.var 1) (.bin .pow (.cst (.int 10)) (.cst (.int 18)))) (.bin .div (.var 1) (.cst (.int 13))) (.cst (.int 0)))) (.cons (.ret (.lst (.cons (.var 2) (.cons (.bin .add (.bin .mod (.bl1 .int (.bin .add (.bin .mul (.var 1) (.cst (.int 223))) (.cst (.int 1013)))) (.cst (.int 2077504271))) (.cst (.int 53))) .nil)))) .nil)))⟩
def f25 : Df := ⟨"_law_roll", ["_law_cup_here", "_law_many", "_law_deep", "_law_found"], 2, (.cons (.ifs (.cmp .gt (.idx (.var 0) (.cst (.int 0))) (.cst (.int 0))) (.cons (.asg (.n 3 false) (.bin .mod (.bl1 .int (.idx (.var 0) (.cst (.int 0)))) (.var 1))) (.cons (.sto 0 (.cst (.int 0)) (.bin .div (.idx (.var 0) (.cst (.int 0))) (.var 1))) (.cons (.ret (.var 3)) .nil))) .nil) (.cons (.sto 0 (.cst (.int 1)) (.bin .mod (.bl1 .int (.bin .add (.bin .mul (.idx (.var 0) (.cst (.int 1))) (.cst (.int 28411))) (.cst (.int 6007)))) (.cst (.int 2147483543)))) (.cons (.asg (.n 2 false) (.bin .mod (.bl1 .int (.bin .mul (.idx (.var 0) (.cst (.int 1))) (.bin .add (.idx (.var 0) (.cst (.int 1))) (.cst (.int 149))))) (.cst (.int 2147483579)))) (.cons (.ret (.bin .mod (.bl1 .int (.bin .div (.var 2) (.cst (.int 811)))) (.var 1))) .nil))))⟩
def f26 : Df := ⟨"_law_some", ["_law_cup_here", "_law_things"], 2, (.cons (.ret (.idx (.var 1) (.call 25 "_law_roll" (.lend 0 (.cons (.bl1 .len (.var 1)) .nil))))) .nil)⟩
def f27 : Df := ⟨"_law_space", ["_law_cup_here", "_law_most", "_law_stretch", "_law_shrink", "_law_orders"], 2, (.cons (.asp [(.n 2 false), (.n 3 false)] (.cons (.call 26 "_law_some" (.lend 0 (.cons (.lst (.cons (.cst (.int 0)) (.cons (.cst (.int 1)) (.cons (.cst (.int 2)) (.cons (.cst (.int 3)) (.cons (.cst (.int 5)) (.cons (.var 1) .nil))))))) .nil))) (.cons (.call 26 "_law_some" (.lend 0 (.cons (.lst (.cons (.cst (.int 0)) (.cons (.cst (.int 0)) (.cons (.cst (.int 1)) (.cons (.cst (.int 2)) (.cons (.cst (.int 4)) (.cons (.var 1) .nil))))))) .nil))) .nil))) (.cons (.asg (.n 4 false) (.lst (.cons (.cst (.int 0)) (.cons (.cst (.int 0)) (.cons (.cst (.int 0)) (.cons (.cst (.int 1)) (.cons (.cst (.int 2)) .nil))))))) (.cons (.ret (.tup (.cons (.cst (.str "space")) (.cons (.call 26 "_law_some" (.lend 0 (.cons (.lst (.cons (.cst (.int 10)) (.cons (.cst (.int 0)) (.cons (.cst (.int 4)) (.cons (.cst (.int 7)) (.cons (.neg (.cst (.int 3))) .nil)))))) .nil))) (.cons (.var 2) (.cons (.call 26 "_law_some" (.lend 0 (.cons (.var 4) .nil))) (.cons (.var 3) (.cons (.call 26 "_law_some" (.lend 0 (.cons (.var 4) .nil))) .nil)))))))) .nil)))⟩
def f28_b0 : IB := (.cons (.ifs (.cmp .eq (.idx (.var 2) (.cst (.int 0))) (.cst (.str "box"))) (.cons (.asg (.n 1 false) (.bin .add (.var 1) (.call 28 "_law_wide" (.cons (.idx (.var 2) (.cst (.int 1))) .nil)))) .nil) (.cons (.asg (.n 1 false) (.bin .add (.var 1) (.mg2 (.dsp [(.str "sign"), (.str "place")] (.cons (.cst (.int 10)) (.cons (.cst (.int 0)) .nil))) (.idx (.var 2) (.cst (.int 0))) (.idx (.var 2) (.cst (.int 1)))))) .nil)) .nil)
def f28_l0 : IS := .fr (.n 2 false) (.val (.var 0)) f28_b0
def f28 : Df := ⟨"_law_wide", ["_law_things", "_law_found", "_law_thing"], 1, (.cons (.asg (.n 1 false) (.cst (.int 0))) (.cons f28_l0 (.cons (.ret (.var 1)) .nil)))⟩
def f29_b0 : IB := (.cons (.asg (.n 5 false) (.call 25 "_law_roll" (.lend 0 (.cons (.cst (.int 9)) .nil)))) (.cons (.ifs (.cmp .lt (.var 5) (.cst (.int 3))) (.cons (.asg (.n 2 false) (.bin .add (.var 2) (.tup (.cons (.call 26 "_law_some" (.lend 0 (.cons (.lst (.cons (.tup (.cons (.cst (.str "sign")) (.cons (.cst (.str "a")) .nil))) (.cons (.tup (.cons (.cst (.str "box")) (.cons (.tup (.cons (.tup (.cons (.cst (.str "sign")) (.cons (.cst (.str "b")) .nil))) (.cons (.tup (.cons (.cst (.str "kern")) (.cons (.call 25 "_law_roll" (.lend 0 (.cons (.cst (.int 30)) .nil))) .nil))) .nil))) .nil))) (.cons (.tup (.cons (.cst (.str "kern")) (.cons (.cst (.int 8)) .nil))) .nil)))) .nil))) .nil)))) .nil) (.cons (.ifs (.cmp .lt (.var 5) (.cst (.int 8))) (.cons (.asg (.n 6 false) (.call 27 "_law_space" (.lend 0 (.cons (.call 26 "_law_some" (.lend 0 (.cons (.lst (.cons (.cst (.int 10)) (.cons (.cst (.int 15)) (.cons (.cst (.int 12)) .nil)))) .nil))) .nil)))) (.cons (.asg (.n 2 false) (.bin .add (.var 2) (.tup (.cons (.ife (.cmp .eq (.call 25 "_law_roll" (.lend 0 (.cons (.cst (.int 4)) .nil))) (.cst (.int 0))) (.var 6) (.bin .add (.slc (.var 6) .no (.yes (.cst (.int 3)))) (.tup (.cons (.cst (.int 0)) (.cons (.idx (.var 6) (.cst (.int 4))) (.cons (.cst (.int 0)) .nil)))))) .nil)))) .nil)) (.cons (.asg (.n 2 false) (.bin .add (.var 2) (.tup (.cons (.tup (.cons (.cst (.str "box")) (.cons (.tup (.cons (.call 27 "_law_space" (.lend 0 (.cons (.cst (.int 9)) .nil))) (.cons (.tup (.cons (.cst (.str "sign")) (.cons (.cst (.str "c")) .nil))) .nil))) .nil))) .nil)))) .nil)) .nil)) .nil))
def f29_l0 : IS := .fr (.n 4 false) (.rg1 (.bin .add (.cst (.int 1)) (.call 25 "_law_roll" (.lend 0 (.cons (.cst (.int 3)) .nil))))) f29_b0
def f29_b1 : IB := (.cons f29_l0 (.cons (.asg (.n 2 false) (.bin .add (.var 2) (.tup (.cons (.tup (.cons (.cst (.str "place")) (.cons (.call 25 "_law_roll" (.lend 0 (.cons (.cst (.int 50)) .nil))) .nil))) .nil)))) .nil))
def f29_l1 : IS := .fr (.n 3 false) (.rg1 (.bin .add (.cst (.int 1)) (.call 25 "_law_roll" (.lend 0 (.cons (.var 1) .nil))))) f29_b1
def f29 : Df := ⟨"_law_passage", ["_law_cup_here", "_law_most", "_law_found", "_law_turn", "_law_count", "_law_way", "_law_space_here"], 2, (.cons (.asg (.n 2 false) (.tup .nil)) (.cons f29_l1 (.cons (.ret (.var 2)) .nil)))⟩
def f30_c0 : IE := .cm1 [("_law_at", 1), ("_law_thing", 2)] (.var 1) (.t [(.n 1 false), (.n 2 false)]) (.enm (.var 0)) (.yes (.cmp .eq (.idx (.var 2) (.cst (.int 0))) (.cst (.str "place"))))
def f30 : Df := ⟨"_law_places", ["_law_passage_here", "_law_at", "_law_thing"], 1, (.cons (.ret f30_c0) .nil)⟩
def f31_c0 : IE := .cm1 [("_law_at", 6), ("_law_thing", 7)] (.var 6) (.t [(.n 6 false), (.n 7 false)]) (.enm (.var 4)) (.yes (.cmp .inn (.idx (.var 7) (.cst (.int 0))) (.tup (.cons (.cst (.str "sign")) (.cons (.cst (.str "box")) .nil)))))
def f31 : Df := ⟨"_law_line", ["_law_passage_here", "_law_first", "_law_last", "_law_places_here", "_law_line_here", "_law_starts", "_law_at", "_law_thing"], 3, (.cons (.asg (.n 3 false) (.call 30 "_law_places" (.cons (.var 0) .nil))) (.cons (.asg (.n 4 false) (.slc (.var 0) (.yes (.ife (.cmp .ge (.var 1) (.cst (.int 0))) (.bin .add (.idx (.var 3) (.var 1)) (.cst (.int 1))) (.cst (.int 0)))) (.yes (.idx (.var 3) (.var 2))))) (.cons (.asg (.n 5 false) f31_c0) (.cons (.ret (.ife (.cmp .ne (.var 5) (.lst .nil)) (.slc (.var 4) (.yes (.idx (.var 5) (.cst (.int 0)))) .no) (.tup .nil))) .nil))))⟩
def f32_c0 : IE := .cm1 [("_law_thing", 6)] (.var 6) (.n 6 false) (.val (.var 3)) (.yes (.and (.cmp .gt (.idx (.var 6) (.cst (.int 2))) (.cst (.int 0))) (.cmp .gt (.idx (.var 6) (.cst (.int 3))) (.cst (.int 0)))))
def f32_c1 : IE := .cm1 [("_law_thing", 6)] (.var 6) (.n 6 false) (.val (.var 3)) (.yes (.and (.cmp .gt (.idx (.var 6) (.cst (.int 4))) (.cst (.int 0))) (.cmp .gt (.idx (.var 6) (.cst (.int 5))) (.cst (.int 0)))))
def f32_c2 : IE := .cm1 [("_law_thing", 6)] (.idx (.var 6) (.cst (.int 2))) (.n 6 false) (.val (.var 3)) .no
def f32_c3 : IE := .cm1 [("_law_thing", 6)] (.idx (.var 6) (.cst (.int 4))) (.n 6 false) (.val (.var 3)) .no
def f32_c4 : IE := .cm1 [("_law_thing", 6)] (.var 6) (.n 6 false) (.val (.var 0)) (.yes (.cmp .eq (.idx (.var 6) (.cst (.int 0))) (.cst (.str "space"))))
def f32 : Df := ⟨"_law_pair", ["_law_line_here", "_law_much", "_law_whole", "_law_spaces", "_law_low", "_law_high", "_law_thing"], 2, (.cons (.asp [(.n 2 false), (.n 3 false)] (.cons (.call 28 "_law_wide" (.cons (.var 0) .nil)) (.cons f32_c4 .nil))) (.cons (.asp [(.n 4 false), (.n 5 false)] (.cons (.bin .sub (.var 2) (.bl1 .sum f32_c3)) (.cons (.bin .add (.var 2) (.bin .mul (.var 1) (.bl1 .sum f32_c2))) .nil))) (.cons (.asg (.n 4 false) (.ife (.or (.cmp .lt (.var 4) (.cst (.int 0))) (.cmp .ne f32_c1 (.lst .nil))) (.cst (.int 0)) (.var 4))) (.cons (.asg (.n 5 false) (.ife (.cmp .ne f32_c0 (.lst .nil)) (.bin .pow (.cst (.int 10)) (.cst (.int 9))) (.var 5))) (.cons (.ret (.ife (.cmp .le (.var 4) (.var 5)) (.tup (.cons (.var 4) (.cons (.var 5) .nil))) (.cst .none))) .nil)))))⟩
def f33_b0 : IB := (.cons (.asg (.n 6 false) (.call 32 "_law_pair" (.cons (.call 31 "_law_line" (.cons (.var 0) (.cons (.var 4) (.cons (.var 5) .nil)))) (.cons (.var 1) .nil)))) (.cons (.ifs (.cmp .isNot (.var 6) (.cst .none)) (.cons (.tst 3 (.cons (.var 4) (.cons (.var 5) .nil)) (.var 6)) .nil) .nil) .nil))
def f33_l0 : IS := .fr (.n 5 false) (.rg2 (.bin .add (.var 4) (.cst (.int 1))) (.var 2)) f33_b0
def f33_b1 : IB := (.cons f33_l0 .nil)
def f33_l1 : IS := .fr (.n 4 false) (.rg2 (.neg (.cst (.int 1))) (.var 2)) f33_b1
def f33 : Df := ⟨"_law_pairs", ["_law_passage_here", "_law_much", "_law_many", "_law_found", "_law_first", "_law_last", "_law_pair_here"], 2, (.cons (.asp [(.n 2 false), (.n 3 true)] (.cons (.bl1 .len (.call 30 "_law_places" (.cons (.var 0) .nil))) (.cons (.emp true) .nil))) (.cons f33_l1 (.cons (.ret (.var 3)) .nil)))⟩
def f34 : Df := ⟨"_law_has", ["_law_pairs_here", "_law_first", "_law_last", "_law_width"], 4, (.cons (.ret (.and (.tin false (.cons (.var 1) (.cons (.var 2) .nil)) (.var 0)) (.chn .le .le (.idx (.tix (.var 0) (.cons (.var 1) (.cons (.var 2) .nil))) (.cst (.int 0))) (.var 3) (.idx (.tix (.var 0) (.cons (.var 1) (.cons (.var 2) .nil))) (.cst (.int 1)))))) .nil)⟩
def f35_c0 : IE := .cm1 [("_law_last", 7)] (.var 7) (.n 7 false) (.rg2 (.bin .add (.var 4) (.cst (.int 1))) (.var 1)) (.yes (.call 34 "_law_has" (.cons (.var 0) (.cons (.var 4) (.cons (.var 7) (.cons (.var 2) .nil))))))
def f35_b0 : IB := (.cons (.asg (.n 6 false) f35_c0) (.cons (.ifs (.cmp .eq (.var 6) (.lst .nil)) (.cons (.ret (.cst .none)) .nil) .nil) (.cons (.asg (.n 4 false) (.idx (.var 6) (.neg (.cst (.int 1))))) (.cons (.asg (.n 3 false) (.bin .add (.var 3) (.tup (.cons (.var 4) .nil)))) (.cons (.ifs (.cmp .eq (.var 4) (.bin .sub (.var 1) (.cst (.int 1)))) (.cons (.ret (.var 3)) .nil) .nil) .nil)))))
def f35_l0 : IS := .fr (.n 5 false) (.rg1 (.var 1)) f35_b0
def f35 : Df := ⟨"_law_taken", ["_law_pairs_here", "_law_many", "_law_width", "_law_found", "_law_here", "_law_turn", "_law_later", "_law_last"], 3, (.cons (.asp [(.n 3 false), (.n 4 false)] (.cons (.tup .nil) (.cons (.neg (.cst (.int 1))) .nil))) (.cons f35_l0 (.cons (.ret (.cst .none)) .nil)))⟩
def f36_c0 : IE := .cmo [("_law_first", 5)] (.var 5) (.n 5 false) 3 (.yes (.call 34 "_law_has" (.cons (.var 0) (.cons (.var 5) (.cons (.var 4) (.cons (.var 2) .nil))))))
def f36_b0 : IB := (.cons (.ifs (.cmp .ne f36_c0 (.lst .nil)) (.cons (.app 3 (.var 4)) .nil) .nil) .nil)
def f36_l0 : IS := .fr (.n 4 false) (.rg1 (.var 1)) f36_b0
def f36 : Df := ⟨"_law_can", ["_law_pairs_here", "_law_many", "_law_width", "_law_ends", "_law_last", "_law_first"], 3, (.cons (.asg (.n 3 true) (.lst (.cons (.neg (.cst (.int 1))) .nil))) (.cons f36_l0 (.cons (.ret (.cmp .inn (.bin .sub (.var 1) (.cst (.int 1))) (.var 3))) .nil)))⟩
def f37_b0 : IB := (.cons (.ifs (.and (.cmp .is (.call 35 "_law_taken" (.cons (.var 0) (.cons (.var 1) (.cons (.var 3) .nil)))) (.cst .none)) (.call 36 "_law_can" (.cons (.var 0) (.cons (.var 1) (.cons (.var 3) .nil))))) (.cons (.ret (.cst (.bool false))) .nil) .nil) .nil)
def f37_l0 : IS := .fr (.n 3 false) (.val (.bin .add (.un .lrg (.bin .add (.var 2) (.cst (.int 2)))) (.lst (.cons (.bin .pow (.cst (.int 10)) (.cst (.int 9))) .nil)))) f37_b0
def f37_c0 : IE := .cm1 [("_law_pair_here", 4)] (.idx (.var 4) (.cst (.int 1))) (.n 4 false) (.val (.un .lvs (.var 0))) (.yes (.cmp .lt (.idx (.var 4) (.cst (.int 1))) (.bin .pow (.cst (.int 10)) (.cst (.int 9)))))
def f37_c1 : IE := .cm1 [("_law_pair_here", 4)] (.idx (.var 4) (.cst (.int 0))) (.n 4 false) (.val (.un .lvs (.var 0))) .no
def f37 : Df := ⟨"_law_may", ["_law_pairs_here", "_law_many", "_law_high", "_law_width", "_law_pair_here"], 2, (.cons (.asg (.n 2 false) (.bl1 .max (.bin .add (.bin .add (.lst (.cons (.cst (.int 0)) .nil)) f37_c0) f37_c1))) (.cons f37_l0 (.cons (.ret (.cst (.bool true))) .nil)))⟩
def f38 : Df := ⟨"_law_right", ["_law_passage_here", "_law_much", "_law_pairs_here", "_law_many", "_law_due", "_law_shown"], 2, (.cons (.asp [(.n 2 false), (.n 3 false)] (.cons (.call 33 "_law_pairs" (.cons (.var 0) (.cons (.var 1) .nil))) (.cons (.bl1 .len (.call 30 "_law_places" (.cons (.var 0) .nil))) .nil))) (.cons (.asp [(.n 4 false), (.n 5 false)] (.cons (.call 37 "_law_may" (.cons (.var 2) (.cons (.var 3) .nil))) (.cons (.call 23 "taking_shown" (.cons (.var 0) (.cons (.var 1) .nil))) .nil))) (.cons (.ifs (.cmp .ne (.bl1 .repr (.call 22 "may_take" (.cons (.var 0) (.cons (.var 1) .nil)))) (.bl1 .repr (.var 4))) (.cons (.ret (.cst (.bool false))) .nil) .nil) (.cons (.ifs (.var 4) (.cons (.ret (.cmp .is (.var 5) (.cst .none))) .nil) .nil) (.cons (.ifs (.or (.not (.isi (.var 5) .int)) (.not (.chn .le .le (.cst (.int 0)) (.var 5) (.bin .pow (.cst (.int 10)) (.cst (.int 9)))))) (.cons (.ret (.cst (.bool false))) .nil) .nil) (.cons (.ret (.and (.cmp .is (.call 35 "_law_taken" (.cons (.var 2) (.cons (.var 3) (.cons (.var 5) .nil)))) (.cst .none)) (.call 36 "_law_can" (.cons (.var 2) (.cons (.var 3) (.cons (.var 5) .nil)))))) .nil))))))⟩
def f39_b0 : IB := (.cons (.ifs (.or (.cmp .ne (.bl1 .repr (.call 22 "may_take" (.cons (.var 9) (.cons (.var 10) .nil)))) (.bl1 .repr (.var 11))) (.not (.call 38 "_law_right" (.cons (.var 9) (.cons (.var 10) .nil))))) (.cons (.ret (.cst (.bool false))) .nil) .nil) .nil)
def f39_l0 : IS := .fr (.t [(.n 9 false), (.n 10 false), (.n 11 false)]) (.val (.var 8)) f39_b0
def f39_b1 : IB := (.cons (.ifs (.not (.call 38 "_law_right" (.cons (.call 29 "_law_passage" (.lend 1 (.cons (.cst (.int 4)) .nil))) (.cons (.call 26 "_law_some" (.lend 1 (.cons (.lst (.cons (.cst (.int 0)) (.cons (.cst (.int 1)) (.cons (.cst (.int 1)) (.cons (.cst (.int 2)) .nil))))) .nil))) .nil)))) (.cons (.ret (.cst (.bool false))) .nil) .nil) .nil)
def f39_l1 : IS := .fr (.n 2 false) (.rg1 (.cst (.int 2))) f39_b1
def f39 : Df := ⟨"law", ["_law_script", "_law_cup_here", "_law_turn", "_law_a", "_law_p", "_law_x", "_law_e", "_law_far", "_law_rows", "_law_passage_here", "_law_much", "_law_due"], 1, (.cons (.asg (.n 1 true) (.call 24 "_law_cup" (.cons (.var 0) .nil))) (.cons f39_l1 (.cons (.asp [(.n 3 false), (.n 4 false), (.n 5 false)] (.cons (.tup (.cons (.cst (.str "sign")) (.cons (.cst (.str "a")) .nil))) (.cons (.tup (.cons (.cst (.str "place")) (.cons (.cst (.int 0)) .nil))) (.cons (.tup (.cons (.cst (.str "space")) (.cons (.cst (.int 0)) (.cons (.cst (.int 10)) (.cons (.cst (.int 0)) (.cons (.cst (.int 3)) (.cons (.cst (.int 0)) .nil))))))) .nil)))) (.cons (.asg (.n 6 false) (.tup (.cons (.var 3) (.cons (.bin .add (.slc (.var 5) .no (.yes (.cst (.int 2)))) (.tup (.cons (.cst (.int 30)) (.cons (.cst (.int 0)) (.cons (.cst (.int 0)) (.cons (.cst (.int 0)) .nil)))))) (.cons (.var 4) (.cons (.var 3) (.cons (.var 5) (.cons (.var 4) (.cons (.tup (.cons (.cst (.str "box")) (.cons (.tup (.cons (.var 3) (.cons (.var 3) .nil))) .nil))) (.cons (.var 5) (.cons (.var 4) .nil))))))))))) (.cons (.asg (.n 7 false) (.bin .add (.slc (.var 5) .no (.yes (.cst (.int 3)))) (.tup (.cons (.cst (.int 1)) (.cons (.cst (.int 0)) (.cons (.cst (.int 0)) .nil)))))) (.cons (.asg (.n 8 false) (.lst (.cons (.tup (.cons (.var 6) (.cons (.cst (.int 1)) (.cons (.cst (.bool false)) .nil)))) (.cons (.tup (.cons (.tup (.cons (.var 4) .nil)) (.cons (.cst (.int 0)) (.cons (.cst (.bool true)) .nil)))) (.cons (.tup (.cons (.tup (.cons (.var 3) (.cons (.var 4) (.cons (.var 3) (.cons (.var 4) .nil))))) (.cons (.cst (.int 0)) (.cons (.cst (.bool true)) .nil)))) (.cons (.tup (.cons (.tup (.cons (.var 3) (.cons (.var 7) (.cons (.var 4) (.cons (.var 3) (.cons (.var 7) (.cons (.var 4) .nil))))))) (.cons (.cst (.int 0)) (.cons (.cst (.bool true)) .nil)))) (.cons (.tup (.cons (.tup (.cons (.var 3) (.cons (.var 7) (.cons (.var 4) (.cons (.var 3) (.cons (.var 4) (.cons (.var 3) (.cons (.var 4) .nil)))))))) (.cons (.cst (.int 0)) (.cons (.cst (.bool false)) .nil)))) .nil))))))) (.cons (.asg (.n 8 false) (.bin .add (.var 8) (.lst (.cons (.tup (.cons (.tup (.cons (.var 3) (.cons (.var 7) (.cons (.var 4) (.cons (.var 3) (.cons (.var 3) (.cons (.var 4) .nil))))))) (.cons (.cst (.int 0)) (.cons (.cst (.bool true)) .nil)))) (.cons (.tup (.cons (.tup (.cons (.var 3) (.cons (.bin .add (.slc (.var 5) .no (.yes (.cst (.int 3)))) (.tup (.cons (.cst (.int 0)) (.cons (.cst (.int 3)) (.cons (.cst (.int 1)) .nil))))) (.cons (.var 4) (.cons (.var 3) (.cons (.var 4) .nil)))))) (.cons (.cst (.int 1)) (.cons (.cst (.bool true)) .nil)))) (.cons (.tup (.cons (.tup (.cons (.var 3) (.cons (.var 4) (.cons (.var 4) .nil)))) (.cons (.cst (.int 0)) (.cons (.cst (.bool true)) .nil)))) .nil)))))) (.cons f39_l0 (.cons (.ret (.cst (.bool true))) .nil)))))))))⟩
abbrev st (i : Nat) : Stmt := PySem.Challenge.pw_settlepages_k65_whole_lines_taken_for_al.main.body.getD i (.Pass ⟨0, 0, 0, 0⟩)
def T0 : List Dt := [⟨f0, defArgs (st 8), defBody (st 8), defScope (st 8)⟩, ⟨f1, defArgs (st 9), defBody (st 9), defScope (st 9)⟩, ⟨f2, defArgs (st 10), defBody (st 10), defScope (st 10)⟩, ⟨f3, defArgs (st 23), defBody (st 23), defScope (st 23)⟩, ⟨f4, defArgs (st 24), defBody (st 24), defScope (st 24)⟩, ⟨f5, defArgs (st 25), defBody (st 25), defScope (st 25)⟩, ⟨f6, defArgs (st 26), defBody (st 26), defScope (st 26)⟩, ⟨f7, defArgs (st 27), defBody (st 27), defScope (st 27)⟩, ⟨f8, defArgs (st 28), defBody (st 28), defScope (st 28)⟩, ⟨f9, defArgs (st 29), defBody (st 29), defScope (st 29)⟩, ⟨f10, defArgs (st 30), defBody (st 30), defScope (st 30)⟩, ⟨f11, defArgs (st 31), defBody (st 31), defScope (st 31)⟩, ⟨f12, defArgs (st 32), defBody (st 32), defScope (st 32)⟩, ⟨f13, defArgs (st 35), defBody (st 35), defScope (st 35)⟩, ⟨f14, defArgs (st 36), defBody (st 36), defScope (st 36)⟩, ⟨f15, defArgs (st 37), defBody (st 37), defScope (st 37)⟩, ⟨f16, defArgs (st 38), defBody (st 38), defScope (st 38)⟩, ⟨f17, defArgs (st 39), defBody (st 39), defScope (st 39)⟩, ⟨f18, defArgs (st 40), defBody (st 40), defScope (st 40)⟩, ⟨f19, defArgs (st 41), defBody (st 41), defScope (st 41)⟩]
def T1 : List Dt := [⟨f20, defArgs (st 42), defBody (st 42), defScope (st 42)⟩, ⟨f21, defArgs (st 43), defBody (st 43), defScope (st 43)⟩, ⟨f22, defArgs (st 44), defBody (st 44), defScope (st 44)⟩, ⟨f23, defArgs (st 45), defBody (st 45), defScope (st 45)⟩, ⟨f24, defArgs (st 47), defBody (st 47), defScope (st 47)⟩, ⟨f25, defArgs (st 48), defBody (st 48), defScope (st 48)⟩, ⟨f26, defArgs (st 49), defBody (st 49), defScope (st 49)⟩, ⟨f27, defArgs (st 50), defBody (st 50), defScope (st 50)⟩, ⟨f28, defArgs (st 51), defBody (st 51), defScope (st 51)⟩, ⟨f29, defArgs (st 52), defBody (st 52), defScope (st 52)⟩, ⟨f30, defArgs (st 53), defBody (st 53), defScope (st 53)⟩, ⟨f31, defArgs (st 54), defBody (st 54), defScope (st 54)⟩, ⟨f32, defArgs (st 55), defBody (st 55), defScope (st 55)⟩, ⟨f33, defArgs (st 56), defBody (st 56), defScope (st 56)⟩, ⟨f34, defArgs (st 57), defBody (st 57), defScope (st 57)⟩, ⟨f35, defArgs (st 58), defBody (st 58), defScope (st 58)⟩, ⟨f36, defArgs (st 59), defBody (st 59), defScope (st 59)⟩, ⟨f37, defArgs (st 60), defBody (st 60), defScope (st 60)⟩, ⟨f38, defArgs (st 61), defBody (st 61), defScope (st 61)⟩, ⟨f39, defArgs (st 62), defBody (st 62), defScope (st 62)⟩]
def T : List Dt := T0 ++ T1
def bs : List Str := ["isinstance", "bool", "int", "len", "tuple", "str", "all", "sum", "enumerate", "any", "min", "max", "range", "sorted", "set", "list", "abs", "repr"]
def gl : List (Str × D) := [("SIGNS", (.str "abcdefghijklmnopqrstuvwxyzABCDEFGHIJKLMNOPQRSTUVWXYZ0123456789 !#$&'()*+,-./:;<=>?\x40[]^_`{|}~\"\n")), ("FAR", (.int 1000000)), ("DEAR", (.int 10000)), ("AMOUNT", (.int 100)), ("SHRINK", (.int 4)), ("STRETCH", (.int 2)), ("OTHERS", (.int 5)), ("MANY", (.int 60)), ("SUM", (.int 300)), ("PLACES", (.int 10)), ("SIGN", (.int 10)), ("GREATEST", (.int 1000000000)), ("MUCH", (.int 10))]
theorem hT : T.all (chD T bs gl) = true := by kernel_rfl
theorem hB : AllB T := ⟨fun _ _ _ _ _ _ us hl => match us, hl with | [_, _, _], _ => rfl, fun _ _ _ _ _ _ us hl => match us, hl with | [_, _, _], _ => rfl, fun _ _ _ _ _ _ us hl => match us, hl with | [_], _ => rfl, fun _ _ _ _ _ _ us hl => match us, hl with | [_], _ => rfl, fun _ _ _ _ _ _ us hl => match us, hl with | [_], _ => rfl, fun _ _ _ _ _ _ us hl => match us, hl with | [_, _, _], _ => rfl, fun _ _ _ _ _ _ us hl => match us, hl with | [_], _ => rfl, fun _ _ _ _ _ _ us hl => match us, hl with | [_], _ => rfl, fun _ _ _ _ _ _ us hl => match us, hl with | [_], _ => rfl, fun _ _ _ _ _ _ us hl => match us, hl with | [_], _ => rfl, fun _ _ _ _ _ _ us hl => match us, hl with | [_], _ => rfl, fun _ _ _ _ _ _ us hl => match us, hl with | [_], _ => rfl, fun _ _ _ _ _ _ us hl => match us, hl with | [_], _ => rfl, fun _ _ _ _ _ _ us hl => match us, hl with | [_, _, _], _ => rfl, fun _ _ _ _ _ _ us hl => match us, hl with | [_, _, _], _ => rfl, fun _ _ _ _ _ _ us hl => match us, hl with | [_, _], _ => rfl, fun _ _ _ _ _ _ us hl => match us, hl with | [_, _, _, _], _ => rfl, fun _ _ _ _ _ _ us hl => match us, hl with | [_, _], _ => rfl, fun _ _ _ _ _ _ us hl => match us, hl with | [_, _, _, _], _ => rfl, fun _ _ _ _ _ _ us hl => match us, hl with | [_, _, _], _ => rfl, fun _ _ _ _ _ _ us hl => match us, hl with | [_, _, _], _ => rfl, fun _ _ _ _ _ _ us hl => match us, hl with | [_, _], _ => rfl, fun _ _ _ _ _ _ us hl => match us, hl with | [_, _], _ => rfl, fun _ _ _ _ _ _ us hl => match us, hl with | [_, _], _ => rfl, fun _ _ _ _ _ _ us hl => match us, hl with | [_], _ => rfl, fun _ _ _ _ _ _ us hl => match us, hl with | [_, _], _ => rfl, fun _ _ _ _ _ _ us hl => match us, hl with | [_, _], _ => rfl, fun _ _ _ _ _ _ us hl => match us, hl with | [_, _], _ => rfl, fun _ _ _ _ _ _ us hl => match us, hl with | [_], _ => rfl, fun _ _ _ _ _ _ us hl => match us, hl with | [_, _], _ => rfl, fun _ _ _ _ _ _ us hl => match us, hl with | [_], _ => rfl, fun _ _ _ _ _ _ us hl => match us, hl with | [_, _, _], _ => rfl, fun _ _ _ _ _ _ us hl => match us, hl with | [_, _], _ => rfl, fun _ _ _ _ _ _ us hl => match us, hl with | [_, _], _ => rfl, fun _ _ _ _ _ _ us hl => match us, hl with | [_, _, _, _], _ => rfl, fun _ _ _ _ _ _ us hl => match us, hl with | [_, _, _], _ => rfl, fun _ _ _ _ _ _ us hl => match us, hl with | [_, _, _], _ => rfl, fun _ _ _ _ _ _ us hl => match us, hl with | [_, _], _ => rfl, fun _ _ _ _ _ _ us hl => match us, hl with | [_, _], _ => rfl, fun _ _ _ _ _ _ us hl => match us, hl with | [_], _ => rfl, trivial⟩
end K65

end
section
set_option linter.all false
set_option maxRecDepth 100000
set_option maxHeartbeats 0
namespace K65
open PySem PySem.Spec PyProof.Rows L2 Ev
abbrev R : PySem.W.OpenRow := PySem.W.OpenLaw.row PySem.Challenge.rw_settlepages_k65_whole_lines_taken_for_al
def fn : List He.DefD := T.map ddOf
def fa : List He.Fa := faOf T bs gl
abbrev hk : PySem.W.Hook := He.hookD 4 fa fn
def ob (s : PySem.W.SharedT) : He.AlD := He.obsDG 4 fa fn (HandSHeadRun.getT s)
theorem ob_eq (s : PySem.W.SharedT) : ob s = hk.obs s.abs := He.obsDG_eq (HandSHeadRun.getT_eq s)
def lo0 : List Str := ["SettleError", "InvalidNumber", "InvalidPassage", "FIGURES", "LETTERS", "SIGNS", "is_whole", "is_row_of", "fits_sign", "MANY", "OTHERS", "SUM", "PLACES", "FAR", "DEAR", "AMOUNT", "SIGN", "GREATEST", "STRETCH", "SHRINK", "fits_thing", "spaces_in", "sum_with", "fits_strip", "places_at", "fits_passage", "need_passage", "wide", "sum_of", "own_spaces"]
def lo1 : List Str := ["MUCH", "need_number", "line_in", "slack", "fit_of", "all_fits", "is_fit", "taken_by", "lines_by", "parting_taken", "may_take", "taking_shown", "_law_cup", "_law_roll", "_law_some", "_law_space", "_law_wide", "_law_passage", "_law_places", "_law_line", "_law_pair", "_law_pairs", "_law_has", "_law_taken", "_law_can", "_law_may", "_law_right"]
def loose : List Str := lo0 ++ lo1
theorem run (w : World) : HandSHeadRun.RunEq R (PySem.W.view R.prog [62]) hk ob 6000 loose w := by
  intro os
  kernel_rfl
end K65

end
section
set_option linter.all false
set_option maxRecDepth 100000
set_option maxHeartbeats 4000000
/-! The law's cup. -/
namespace K65
open PySem Ev
abbrev P : List Df := T.map (·.df)
abbrev W : Nat := 1000000
theorem step {n i : Nat} {ss : List Sl} {df : Df} (h : P[i]? = some df) (hl : ss.length = df.np) : callN P W (n + 1) i ss = endK ss (evB (callN P W n) W df.body (ss ++ List.replicate (df.names.length - df.np) .un)) := by
  have e : callN P W (n + 1) i ss = runDef (callN P W n) W df ss := by
    show (match P[i]? with | some df => runDef (callN P W n) W df ss | none => .stuck) = _
    rw [h]
  rw [e, runDef_eq _ _ _ _ hl]
/-- the cup -/
def cupD (g m : Int) : D := .list [.int g, .int m]
def Cup (d : D) : Prop := ∃ g m : Int, d = cupD g m ∧ 0 ≤ g ∧ 0 ≤ m
theorem mulOk_r {i j : Int} (h1 : -18446744073709551616 < j) (h2 : j < 18446744073709551616) : mulOk i j = true := by
  simp [mulOk, P64, h1, h2]
theorem mulOk_l {i j : Int} (h1 : -18446744073709551616 < i) (h2 : i < 18446744073709551616) : mulOk i j = true := by
  simp [mulOk, P64, h1, h2]
theorem s_roll (n : Nat) (g m k : Int) (hk : 0 < k) (hk2 : k < 1073741824) :
    callN P W (n + 1) 25 [.bor (cupD g m), .val (.int k)] = if 0 < g then .ok false (.int (g % k)) [cupD (g / k) m] else
      .ok false (.int ((((m * 28411 + 6007) % 2147483543 * ((m * 28411 + 6007) % 2147483543 + 149)) % 2147483579 / 811) % k)) [cupD g ((m * 28411 + 6007) % 2147483543)] := by
  rw [step (df := f25) rfl rfl]
  have h1 : mulOk m 28411 = true := mulOk_r (by decide) (by decide)
  have h2 : mulOk ((m * 28411 + 6007) % 2147483543) ((m * 28411 + 6007) % 2147483543 + 149) = true := mulOk_l (by omega) (by omega)
  simp [f25, b1, idx, atI, Ev.ixN, cupD, hk, hk2, h1, h2]
theorem roll_ok (n : Nat) {c : D} (hc : Cup c) {k : Int} (hk : 0 < k) (hk2 : k < 1073741824) : ∃ (j : Int) (c' : D), callN P W (n + 1) 25 [.bor c, .val (.int k)] = .ok false (.int j) [c'] ∧ 0 ≤ j ∧ j < k ∧ Cup c' := by
  obtain ⟨g, m, rfl, hg, hm⟩ := hc
  rw [s_roll n g m k hk hk2]
  by_cases h : 0 < g
  · rw [if_pos h]
    exact ⟨_, _, rfl, Int.emod_nonneg _ (by omega), Int.emod_lt_of_pos _ hk, _, _, rfl, Int.ediv_nonneg hg (by omega), hm⟩
  · rw [if_neg h]
    exact ⟨_, _, rfl, Int.emod_nonneg _ (by omega), Int.emod_lt_of_pos _ hk, _, _, rfl, hg, Int.emod_nonneg _ (by decide)⟩
theorem some_ok (n : Nat) {c : D} (hc : Cup c) {l : List D} (hl : l ≠ []) (hl2 : l.length < 1000) : ∃ (x : D) (c' : D), callN P W (n + 2) 26 [.bor c, .val (.list l)] = .ok false x [c'] ∧ x ∈ l ∧ Cup c' := by
  have h0 : 0 < l.length := List.length_pos_iff.mpr hl
  obtain ⟨j, c', e, j0, j1, hc'⟩ := roll_ok n hc (k := l.length) (by omega) (by omega)
  have hj : j.toNat < l.length := by omega
  refine ⟨l[j.toNat], c', ?_, List.getElem_mem hj, hc'⟩
  rw [step (df := f26) rfl rfl]
  have hix : idx (.list l) (.int j) = some l[j.toNat] := by
    have : Ev.ixN l.length j = some j.toNat := by simp [Ev.ixN, j0, j1]
    simp [idx, atI, this, hj]
  simp [f26, b1, e, hix]
theorem cup_ok (n : Nat) (ns : List Int) (hlen : ns.length ≤ 63) : ∃ c, callN P W (n + 1) 24 [.val (scriptD ns)] = .ok true c [] ∧ Cup c := by
  rw [step (df := f24) rfl rfl]
  have h0 : ∃ i : Int, idx (.list (ns.map PyData.int ++ [.int 0])) (.int 0) = some (.int i) := by
    cases ns with
    | nil => exact ⟨0, rfl⟩
    | cons i l =>
      refine ⟨i, ?_⟩
      have h : (0 : Int) < (l.length : Int) + 1 + 1 := by omega
      simp [idx, atI, Ev.ixN, h]
  obtain ⟨i, hi⟩ := h0
  have hz : ns.length + 1 ≤ SZ := by
    show ns.length + 1 ≤ 16777216
    omega
  have hz2 : ns.length ≤ 16777215 := by omega
  · have e1 : bop .add (.list (ns.map PyData.int)) (.list [.int 0]) = some (.f (.list (ns.map PyData.int ++ [.int 0]))) := by
      rw [bop_lst, if_pos (by simpa using hz)]
    have hm : ∀ j : Int, mulOk j 223 = true := fun j => mulOk_r (by decide) (by decide)
    by_cases hn : i < 0
    · by_cases hg : (1000000000000000000 : Int) ≤ -i
      · refine ⟨cupD (-i / 13) ((-i * 223 + 1013) % 2077504271 + 53), ?_, _, _, rfl, Int.ediv_nonneg (by omega) (by decide), by have := Int.emod_nonneg (-i * 223 + 1013) (show (2077504271 : Int) ≠ 0 by decide); omega⟩
        simp [f24, scriptD, b1, e1, hi, hn, hg, hm, hz2, bop, SZ, cupD]
      · refine ⟨cupD 0 ((-i * 223 + 1013) % 2077504271 + 53), ?_, _, _, rfl, by decide, by have := Int.emod_nonneg (-i * 223 + 1013) (show (2077504271 : Int) ≠ 0 by decide); omega⟩
        simp [f24, scriptD, b1, e1, hi, hn, hg, hm, hz2, bop, SZ, cupD]
    · by_cases hg : (1000000000000000000 : Int) ≤ i
      · refine ⟨cupD (i / 13) ((i * 223 + 1013) % 2077504271 + 53), ?_, _, _, rfl, Int.ediv_nonneg (by omega) (by decide), by have := Int.emod_nonneg (i * 223 + 1013) (show (2077504271 : Int) ≠ 0 by decide); omega⟩
        simp [f24, scriptD, b1, e1, hi, hn, hg, hm, hz2, bop, SZ, cupD]
      · refine ⟨cupD 0 ((i * 223 + 1013) % 2077504271 + 53), ?_, _, _, rfl, by decide, by have := Int.emod_nonneg (i * 223 + 1013) (show (2077504271 : Int) ≠ 0 by decide); omega⟩
        simp [f24, scriptD, b1, e1, hi, hn, hg, hm, hz2, bop, SZ, cupD]
/-! things -/
inductive Th where
  | sign (s : Str)
  | kern (n : Int)
  | place (n : Int)
  | space (w a o b p : Int)
  | box (l : List Th)
mutual
def enc : Th → D
  | .sign s => .tuple [.str "sign", .str s]
  | .kern n => .tuple [.str "kern", .int n]
  | .place n => .tuple [.str "place", .int n]
  | .space w a o b p => .tuple [.str "space", .int w, .int a, .int o, .int b, .int p]
  | .box l => .tuple [.str "box", .tuple (encs l)]
def encs : List Th → List D
  | [] => []
  | t :: l => enc t :: encs l
end
mutual
def cnt : Th → Nat
  | .box l => cnts l + 1
  | _ => 1
def cnts : List Th → Nat
  | [] => 0
  | t :: l => cnt t + cnts l
end
mutual
def wf : Th → Nat → Prop
  | .sign s, _ => s ∈ (["a", "b", "c", "x", " "] : List Str)
  | .kern n, _ => -7 ≤ n ∧ n ≤ 31
  | .place n, _ => 0 ≤ n ∧ n < 90
  | .space w a o b p, _ => (-3 ≤ w ∧ w ≤ 10) ∧ (0 ≤ a ∧ a ≤ 15) ∧ (0 ≤ o ∧ o ≤ 2) ∧ (0 ≤ b ∧ b ≤ 15) ∧ (0 ≤ p ∧ p ≤ 2)
  | .box l, d => 0 < d ∧ wfs l (d - 1)
def wfs : List Th → Nat → Prop
  | [], _ => True
  | t :: l, d => wf t d ∧ wfs l d
end
theorem int_mem {x : D} {l : List Int} (h : x ∈ l.map PyData.int) : ∃ i, x = .int i ∧ i ∈ l := by
  obtain ⟨i, hi, e⟩ := List.mem_map.mp h
  exact ⟨i, e.symm, hi⟩
theorem int_in {l : List Int} {lo hi : Int} (h : (l.all fun i => decide (lo ≤ i) && decide (i ≤ hi)) = true) {i : Int} (hi' : i ∈ l) : lo ≤ i ∧ i ≤ hi := by
  have := List.all_eq_true.mp h i hi'
  simpa using this
theorem space_ok (n : Nat) {c : D} (hc : Cup c) {q : Int} (hq : 0 ≤ q ∧ q ≤ 15) : ∃ (w a o b p : Int) (c' : D), callN P W (n + 3) 27 [.bor c, .val (.int q)] = .ok false (enc (.space w a o b p)) [c'] ∧ wf (.space w a o b p) 0 ∧ Cup c' := by
  have hq2 := hq
  obtain ⟨xa, c1, e1, m1, k1⟩ := some_ok n hc (l := [.int 0, .int 1, .int 2, .int 3, .int 5, .int q]) (by simp) (by simp)
  obtain ⟨xb, c2, e2, m2, k2⟩ := some_ok n k1 (l := [.int 0, .int 0, .int 1, .int 2, .int 4, .int q]) (by simp) (by simp)
  obtain ⟨xw, c3, e3, m3, k3⟩ := some_ok n k2 (l := [.int 10, .int 0, .int 4, .int 7, .int (-3)]) (by simp) (by simp)
  obtain ⟨xo, c4, e4, m4, k4⟩ := some_ok n k3 (l := [.int 0, .int 0, .int 0, .int 1, .int 2]) (by simp) (by simp)
  obtain ⟨xp, c5, e5, m5, k5⟩ := some_ok n k4 (l := [.int 0, .int 0, .int 0, .int 1, .int 2]) (by simp) (by simp)
  obtain ⟨a, rfl, ma⟩ := int_mem (l := [0, 1, 2, 3, 5, q]) m1
  obtain ⟨b, rfl, mb⟩ := int_mem (l := [0, 0, 1, 2, 4, q]) m2
  obtain ⟨w, rfl, mw⟩ := int_mem (l := [10, 0, 4, 7, -3]) m3
  obtain ⟨o, rfl, mo⟩ := int_mem (l := [0, 0, 0, 1, 2]) m4
  obtain ⟨p, rfl, mp⟩ := int_mem (l := [0, 0, 0, 1, 2]) m5
  refine ⟨w, a, o, b, p, c5, ?_, ⟨?_, ?_, ?_, ?_, ?_⟩, k5⟩
  · rw [step (df := f27) rfl rfl]
    simp [f27, SZ, e1, e2, e3, e4, e5, enc]
  · exact int_in (lo := -3) (hi := 10) (by decide) mw
  · exact int_in (lo := 0) (hi := 15) (by simp [hq2.1, hq2.2]) ma
  · exact int_in (lo := 0) (hi := 2) (by decide) mo
  · exact int_in (lo := 0) (hi := 15) (by simp [hq2.1, hq2.2]) mb
  · exact int_in (lo := 0) (hi := 2) (by decide) mp
end K65

end
section
set_option linter.all false
set_option maxRecDepth 100000
set_option maxHeartbeats 4000000
/-! Things and strips as the law draws them. -/
namespace K65
open PySem Ev
theorem encs_app : ∀ l k : List Th, encs (l ++ k) = encs l ++ encs k
  | [], k => rfl
  | t :: l, k => by
    show enc t :: encs (l ++ k) = enc t :: (encs l ++ encs k)
    rw [encs_app l k]
theorem encs_len : ∀ l : List Th, (encs l).length = l.length
  | [] => rfl
  | t :: l => by
    show (encs l).length + 1 = l.length + 1
    rw [encs_len l]
theorem cnts_app : ∀ l k : List Th, cnts (l ++ k) = cnts l + cnts k
  | [], k => by simp [cnts]
  | t :: l, k => by
    show cnt t + cnts (l ++ k) = cnt t + cnts l + cnts k
    rw [cnts_app l k]
    omega
theorem wfs_app : ∀ (l k : List Th) (d : Nat), wfs l d → wfs k d → wfs (l ++ k) d
  | [], k, d, _, h => h
  | t :: l, k, d, h, h2 => ⟨h.1, wfs_app l k d h.2 h2⟩
theorem cnt_pos : ∀ t : Th, 1 ≤ cnt t
  | .sign _ => Nat.le_refl _
  | .kern _ => Nat.le_refl _
  | .place _ => Nat.le_refl _
  | .space _ _ _ _ _ => Nat.le_refl _
  | .box l => by show 1 ≤ cnts l + 1; omega
theorem len_cnts : ∀ l : List Th, l.length ≤ cnts l
  | [] => Nat.le_refl _
  | t :: l => by
    have h1 := cnt_pos t
    have h2 := len_cnts l
    show l.length + 1 ≤ cnt t + cnts l
    omega
def Free (s : Sl) : Prop := s = .un ∨ ∃ v, s = .val v
theorem sto_free {s : Sl} (h : Free s) (t : Sl) (i : Nat) (r : Ev.Env) : stoK (some s) t i r = .ok () (r.set i t) := by
  rcases h with rfl | ⟨v, rfl⟩ <;> rfl
theorem roll_ge {N : Nat} (hN : 1 ≤ N) {c : D} (hc : Cup c) {k : Int} (hk : 0 < k) (hk2 : k < 1073741824) : ∃ (j : Int) (c' : D), callN P W N 25 [.bor c, .val (.int k)] = .ok false (.int j) [c'] ∧ 0 ≤ j ∧ j < k ∧ Cup c' := by
  obtain ⟨n, rfl⟩ := Nat.exists_eq_add_of_le hN
  rw [Nat.add_comm]
  exact roll_ok n hc hk hk2
theorem some_ge {N : Nat} (hN : 2 ≤ N) {c : D} (hc : Cup c) {l : List D} (hl : l ≠ []) (hl2 : l.length < 1000) : ∃ (x : D) (c' : D), callN P W N 26 [.bor c, .val (.list l)] = .ok false x [c'] ∧ x ∈ l ∧ Cup c' := by
  obtain ⟨n, rfl⟩ := Nat.exists_eq_add_of_le hN
  rw [Nat.add_comm]
  exact some_ok n hc hl hl2
theorem space_ge {N : Nat} (hN : 3 ≤ N) {c : D} (hc : Cup c) {q : Int} (hq : 0 ≤ q ∧ q ≤ 15) : ∃ (w a o b p : Int) (c' : D), callN P W N 27 [.bor c, .val (.int q)] = .ok false (enc (.space w a o b p)) [c'] ∧ wf (.space w a o b p) 0 ∧ Cup c' := by
  obtain ⟨n, rfl⟩ := Nat.exists_eq_add_of_le hN
  rw [Nat.add_comm]
  exact space_ok n hc hq
theorem small {j : Int} (h : 0 ≤ j) (h2 : j < 1000000) : small62 j = true := by
  unfold small62 P62
  simp
  omega
theorem wfs_le : ∀ (l : List Th) (d : Nat), wfs l d → ∀ t ∈ l, wf t d
  | t :: l, d, h, x, hx => by
    rcases List.mem_cons.mp hx with rfl | hx
    · exact h.1
    · exact wfs_le l d h.2 x hx
theorem rng_length : ∀ (n : Nat) (i : Int), (rng i n).length = n
  | 0, _ => rfl
  | n + 1, i => by
    show (rng (i + 1) n).length + 1 = n + 1
    rw [rng_length]
end K65

end
section
set_option linter.all false
set_option maxRecDepth 100000
set_option maxHeartbeats 4000000
/-! Widths. -/
namespace K65
open PySem Ev
@[simp] theorem n_sign_box : (Str.ofString "sign" = Str.ofString "box") = False := eq_false (by decide +kernel)
@[simp] theorem n_sign_kern : (Str.ofString "sign" = Str.ofString "kern") = False := eq_false (by decide +kernel)
@[simp] theorem n_sign_place : (Str.ofString "sign" = Str.ofString "place") = False := eq_false (by decide +kernel)
@[simp] theorem n_sign_space : (Str.ofString "sign" = Str.ofString "space") = False := eq_false (by decide +kernel)
@[simp] theorem n_box_sign : (Str.ofString "box" = Str.ofString "sign") = False := eq_false (by decide +kernel)
@[simp] theorem n_box_kern : (Str.ofString "box" = Str.ofString "kern") = False := eq_false (by decide +kernel)
@[simp] theorem n_box_place : (Str.ofString "box" = Str.ofString "place") = False := eq_false (by decide +kernel)
@[simp] theorem n_box_space : (Str.ofString "box" = Str.ofString "space") = False := eq_false (by decide +kernel)
@[simp] theorem n_kern_sign : (Str.ofString "kern" = Str.ofString "sign") = False := eq_false (by decide +kernel)
@[simp] theorem n_kern_box : (Str.ofString "kern" = Str.ofString "box") = False := eq_false (by decide +kernel)
@[simp] theorem n_kern_place : (Str.ofString "kern" = Str.ofString "place") = False := eq_false (by decide +kernel)
@[simp] theorem n_kern_space : (Str.ofString "kern" = Str.ofString "space") = False := eq_false (by decide +kernel)
@[simp] theorem n_place_sign : (Str.ofString "place" = Str.ofString "sign") = False := eq_false (by decide +kernel)
@[simp] theorem n_place_box : (Str.ofString "place" = Str.ofString "box") = False := eq_false (by decide +kernel)
@[simp] theorem n_place_kern : (Str.ofString "place" = Str.ofString "kern") = False := eq_false (by decide +kernel)
@[simp] theorem n_place_space : (Str.ofString "place" = Str.ofString "space") = False := eq_false (by decide +kernel)
@[simp] theorem n_space_sign : (Str.ofString "space" = Str.ofString "sign") = False := eq_false (by decide +kernel)
@[simp] theorem n_space_box : (Str.ofString "space" = Str.ofString "box") = False := eq_false (by decide +kernel)
@[simp] theorem n_space_kern : (Str.ofString "space" = Str.ofString "kern") = False := eq_false (by decide +kernel)
@[simp] theorem n_space_place : (Str.ofString "space" = Str.ofString "place") = False := eq_false (by decide +kernel)
mutual
def wd : Th → Int
  | .sign _ => 10
  | .kern n => n
  | .place _ => 0
  | .space w _ _ _ _ => w
  | .box l => wds l
def wds : List Th → Int
  | [] => 0
  | t :: l => wd t + wds l
end
theorem encs_map : ∀ l : List Th, encs l = l.map enc
  | [] => rfl
  | t :: l => by
    show enc t :: encs l = enc t :: l.map enc
    rw [encs_map l]
theorem wds_sum : ∀ l : List Th, (l.map wd).sum = wds l
  | [] => rfl
  | t :: l => by
    rw [List.map_cons, List.sum_cons, wds_sum l]
    rfl
theorem wds_app : ∀ l k : List Th, wds (l ++ k) = wds l + wds k
  | [], k => by simp [wds]
  | t :: l, k => by
    show wd t + wds (l ++ k) = wd t + wds l + wds k
    rw [wds_app l k]
    omega
theorem ints_map {α : Type} (f : α → Int) : ∀ l : List α, intsL (l.map fun a => .int (f a)) = some (l.map f)
  | [] => rfl
  | a :: l => by
    show (intsL (l.map fun a => .int (f a))).map (f a :: ·) = _
    rw [ints_map f l]
    rfl
theorem len_small {l : List Th} (h : cnts l ≤ 100) : l.length ≤ SZ := by
  have := len_cnts l
  show l.length ≤ 16777216
  omega
/-- the names by what a thing is -/
theorem idx0 (l : List D) (x : D) : idx (.tuple (x :: l)) (.int 0) = some x := by
  have h : (0 : Int) < (l.length : Int) + 1 := by omega
  simp [idx, atI, Ev.ixN, h]
theorem idx1 (l : List D) (x y : D) : idx (.tuple (x :: y :: l)) (.int 1) = some y := by
  have h : (1 : Int) < (l.length : Int) + 1 + 1 := by omega
  simp [idx, atI, Ev.ixN, h]
def SumOk (N d : Nat) : Prop := ∀ l : List Th, wfs l d → cnts l ≤ 100 → callN P W N 11 [.val (.tuple (encs l))] = .ok false (.int (wds l)) []
def WideOk (N d : Nat) : Prop := ∀ t : Th, wf t d → cnt t ≤ 100 → callN P W N 10 [.val (enc t)] = .ok false (.int (wd t)) []
theorem cnt_le : ∀ {l : List Th} {t : Th}, t ∈ l → cnt t ≤ cnts l
  | x :: l, t, h => by
    rcases List.mem_cons.mp h with rfl | h
    · show cnt t ≤ cnt t + cnts l; omega
    · have := cnt_le h
      show cnt t ≤ cnt x + cnts l; omega
theorem sum_of_wide {N d : Nat} (h : WideOk N d) : SumOk (N + 1) d := by
  intro l hw hc
  rw [step (df := f11) rfl rfl]
  have e : (ev (callN P W N) f11_c0).1 [.val (.tuple (encs l)), .un] = .ok (.f (.list (l.map fun t => .int (wd t)))) [.val (.tuple (encs l)), .un] := by
    refine e_map (xs := l) (en := enc) (fun t => .int (wd t)) ?_ (fun t ht => ?_) (len_small hc)
    · simp [itemsOf, encs_map]
    · have e1 := h t (wfs_le l d hw t ht) (Nat.le_trans (cnt_le ht) hc)
      refine ⟨_, by simp [item, wipeE, e1]; rfl, by simp [wipeE]⟩
  simp [f11, e, b1, ints_map, wds_sum]
theorem wide_of_sum {N d : Nat} (h : ∀ d', d = d' + 1 → SumOk N d') : WideOk (N + 1) d := by
  intro t hw hc
  rw [step (df := f10) rfl rfl]
  cases t with
  | sign s => simp [f10, enc, idx0, wd]
  | kern n => simp [f10, enc, idx0, idx1, wd]
  | place n => simp [f10, enc, idx0, wd]
  | space w a o b p => simp [f10, enc, idx0, idx1, wd]
  | box l =>
    obtain ⟨h1, h2⟩ := hw
    have e := h (d - 1) (by omega) l h2 (by have : cnts l + 1 ≤ 100 := hc; omega)
    simp [f10, enc, idx0, idx1, e, wd]
theorem wide_all : ∀ d : Nat, (∀ N, 2 * d + 1 ≤ N → WideOk N d) ∧ ∀ N, 2 * d + 2 ≤ N → SumOk N d
  | 0 => by
    have a : ∀ N, 2 * 0 + 1 ≤ N → WideOk N 0 := fun N hN => by
      obtain ⟨M, rfl⟩ : ∃ M, N = M + 1 := ⟨N - 1, by omega⟩
      exact wide_of_sum fun d' hd => by omega
    refine ⟨a, fun N hN => ?_⟩
    obtain ⟨M, rfl⟩ : ∃ M, N = M + 1 := ⟨N - 1, by omega⟩
    exact sum_of_wide (a M (by omega))
  | d + 1 => by
    have ih := wide_all d
    have a : ∀ N, 2 * (d + 1) + 1 ≤ N → WideOk N (d + 1) := fun N hN => by
      obtain ⟨M, rfl⟩ : ∃ M, N = M + 1 := ⟨N - 1, by omega⟩
      refine wide_of_sum fun d' hd => ?_
      have : d' = d := by omega
      subst this
      exact ih.2 M (by omega)
    refine ⟨a, fun N hN => ?_⟩
    obtain ⟨M, rfl⟩ : ∃ M, N = M + 1 := ⟨N - 1, by omega⟩
    exact sum_of_wide (a M (by omega))
/-! the law's own widths -/
theorem disp2 : dispD [.str "sign", .str "place"] [.int 10, .int 0] = some [(.str "sign", .int 10), (.str "place", .int 0)] := by rfl
theorem g_sign : getD1 (.dict [(.str "sign", .int 10), (.str "place", .int 0)]) (.str "sign") = some (some (.int 10)) := by rfl
theorem g_place : getD1 (.dict [(.str "sign", .int 10), (.str "place", .int 0)]) (.str "place") = some (some (.int 0)) := by rfl
theorem g_kern : getD1 (.dict [(.str "sign", .int 10), (.str "place", .int 0)]) (.str "kern") = some none := by rfl
theorem g_space : getD1 (.dict [(.str "sign", .int 10), (.str "place", .int 0)]) (.str "space") = some none := by rfl
def LawWide (N d : Nat) : Prop := ∀ l : List Th, wfs l d → cnts l ≤ 100 → callN P W N 28 [.val (.tuple (encs l))] = .ok false (.int (wds l)) []
theorem loop27 {N d : Nat} (h : ∀ d', d = d' + 1 → LawWide N d') (v : D) : ∀ (l : List Th) (a : Int) (s : Sl), Free s → wfs l d → cnts l ≤ 100 →
    ∃ s', forL (fun x r2 => (asn (.n 2 false) (.d x) r2).bind fun _ r3 => evB (callN P W N) W f28_b0 r3) (encs l) [.val v, .val (.int a), s] = .ok .nx [.val v, .val (.int (a + wds l)), s']
  | [], a, s, hs, hw, hc => ⟨s, by simp [encs, wds, forL]⟩
  | t :: l, a, s, hs, hw, hc => by
    have hc' : cnt t + cnts l ≤ 100 := hc
    obtain ⟨s', e⟩ := loop27 h v l (a + wd t) (.val (enc t)) (.inr ⟨_, rfl⟩) hw.2 (by omega)
    refine ⟨s', ?_⟩
    show forL _ (enc t :: encs l) _ = _
    rw [for_nx (r' := [.val v, .val (.int (a + wd t)), .val (enc t)]), e]
    · show _ = Res.ok Fl.nx [Sl.val v, Sl.val (.int (a + (wd t + wds l))), s']
      rw [Int.add_assoc]
    · have w1 := hw.1
      cases t with
      | sign s => simp [f28_b0, sto_free hs, enc, idx0, idx1, wd, disp2, g_sign, isDict]
      | kern n => simp [f28_b0, sto_free hs, enc, idx0, idx1, wd, disp2, g_kern, isDict]
      | place n => simp [f28_b0, sto_free hs, enc, idx0, idx1, wd, disp2, g_place, isDict]
      | space w a o b p => simp [f28_b0, sto_free hs, enc, idx0, idx1, wd, disp2, g_space, isDict]
      | box k =>
        obtain ⟨h1, h2⟩ := w1
        have e := h (d - 1) (by omega) k h2 (by have : cnts k + 1 + cnts l ≤ 100 := hc'; omega)
        simp [f28_b0, sto_free hs, enc, idx0, idx1, wd, e]
theorem law_wide : ∀ (d N : Nat), d + 1 ≤ N → LawWide N d
  | d, N, hN, l, hw, hc => by
    obtain ⟨M, rfl⟩ : ∃ M, N = M + 1 := ⟨N - 1, by omega⟩
    obtain ⟨s', e⟩ := loop27 (N := M) (d := d) (fun d' hd => by subst hd; exact law_wide d' M (by omega)) (.tuple (encs l)) l 0 .un (.inl rfl) hw hc
    have ef : evS (callN P W M) W f28_l0 [.val (.tuple (encs l)), .val (.int 0), .un] = .ok .nx [.val (.tuple (encs l)), .val (.int (wds l)), s'] := by
      rw [show f28_l0 = IS.fr (.n 2 false) (.val (.var 0)) f28_b0 from rfl, s_for]
      have ei : evI (callN P W M) (.val (.var 0)) [.val (.tuple (encs l)), .val (.int 0), .un] = .ok (encs l) [.val (.tuple (encs l)), .val (.int 0), .un] := by simp [itemsOf]
      rw [ei]
      simpa using e
    rw [step (df := f28) rfl rfl]
    simp [f28, ef]
end K65

end
section
set_option linter.all false
set_option maxRecDepth 100000
set_option maxHeartbeats 4000000
/-! Rules. -/
namespace K65
open PySem Ev
def wy (up : Bool) : Int := if up = true then 2 else 4
def isSp : Th → Bool
  | .space _ _ _ _ _ => true
  | _ => false
def am (up : Bool) : Th → Int
  | .space _ a _ b _ => if up = true then a else b
  | _ => 0
def od (up : Bool) : Th → Int
  | .space _ _ o _ p => if up = true then o else p
  | _ => 0
theorem idxw (up : Bool) (w a o b p : Int) (x : D) : idx (.tuple [x, .int w, .int a, .int o, .int b, .int p]) (.int (wy up)) = some (.int (am up (.space w a o b p))) := by
  cases up <;> rfl
theorem idxo (up : Bool) (w a o b p : Int) (x : D) : idx (.tuple [x, .int w, .int a, .int o, .int b, .int p]) (.int (wy up + 1)) = some (.int (od up (.space w a o b p))) := by
  cases up <;> rfl
theorem own11 {N : Nat} (hN : 1 ≤ N) (l : List Th) (hc : cnts l ≤ 100) : callN P W N 12 [.val (.tuple (encs l))] = .ok true (.list ((l.filter isSp).map enc)) [] := by
  obtain ⟨M, rfl⟩ : ∃ M, N = M + 1 := ⟨N - 1, by omega⟩
  have e : (ev (callN P W M) f12_c0).1 [.val (.tuple (encs l)), .un] = .ok (.f (.list ((l.filter isSp).map enc))) [.val (.tuple (encs l)), .un] := by
    refine e_filter (xs := l) (en := enc) isSp enc (by simp [itemsOf, encs_map]) (fun t ht => ?_) (len_small hc)
    cases t with
    | sign s => exact ⟨_, by simp [item, wipeE, enc, idx0, isSp]; rfl, by simp [wipeE]⟩
    | kern n => exact ⟨_, by simp [item, wipeE, enc, idx0, isSp]; rfl, by simp [wipeE]⟩
    | place n => exact ⟨_, by simp [item, wipeE, enc, idx0, isSp]; rfl, by simp [wipeE]⟩
    | box k => exact ⟨_, by simp [item, wipeE, enc, idx0, isSp]; rfl, by simp [wipeE]⟩
    | space w a o b p => exact ⟨_, by simp [item, wipeE, enc, idx0, isSp]; rfl, by simp [wipeE]⟩
  rw [step (df := f12) rfl rfl]
  simp [f12, e]
theorem boolsL_map {α : Type} (f : α → Bool) : ∀ l : List α, boolsL (l.map fun a => .bool (f a)) = some (l.map f)
  | [] => rfl
  | a :: l => by
    show (boolsL (l.map fun a => .bool (f a))).map (f a :: ·) = _
    rw [boolsL_map f l]
    rfl
theorem any_bools {α : Type} (f : α → Bool) (l : List α) : b1 .any (.list (l.map fun a => .bool (f a))) = some (.d (.bool (l.any f))) := by
  show (boolsL _).map _ = _
  rw [boolsL_map]
  show some (TV.d (.bool ((l.map f).any id))) = _
  rw [List.any_map]
  rfl
theorem sum_intsF {α : Type} (f : α → Int) (l : List α) : b1 .sum (.list (l.map fun a => .int (f a))) = some (.d (.int (l.map f).sum)) := by
  show (intsL _).map _ = _
  rw [ints_map]
  rfl
/-- a space that has an order -/
def soft (up : Bool) (t : Th) : Bool := isSp t && (decide (0 < am up t) && decide (0 < od up t))
def slackM (up : Bool) (l : List Th) : Option Int := if (l.filter isSp).any (soft up) = true then none else some ((l.filter isSp).map (am up)).sum
def optD : Option Int → D
  | none => .none
  | some i => .int i
theorem slack18 {N : Nat} (hN : 2 ≤ N) (up : Bool) (l : List Th) (hc : cnts l ≤ 100) : callN P W N 15 [.val (.tuple (encs l)), .val (.int (wy up))] = .ok false (optD (slackM up l)) [] := by
  obtain ⟨M, rfl⟩ : ∃ M, N = M + 1 := ⟨N - 1, by omega⟩
  have e1 := own11 (N := M) (by omega) l hc
  have hfl : (l.filter isSp).length ≤ 100 := by
    have := List.length_filter_le isSp l
    have := len_cnts l
    omega
  have hsp : ∀ t ∈ l.filter isSp, isSp t = true := fun t ht => (List.mem_filter.mp ht).2
  obtain ⟨S, hS⟩ : ∃ S, S = l.filter isSp := ⟨_, rfl⟩
  unfold slackM
  rw [← hS] at e1 hfl hsp ⊢
  obtain ⟨L, hL⟩ : ∃ L, L = encs l := ⟨_, rfl⟩
  rw [← hL] at e1 ⊢
  obtain ⟨E, hE⟩ : ∃ E, E = S.map enc := ⟨_, rfl⟩
  rw [← hE] at e1
  have e2 : (ev (callN P W M) f15_c1).1 [.val (.tuple L), .val (.int (wy up)), .val (.list E), .un] = .ok (.f (.list (S.map fun t => .bool (soft up t)))) [.val (.tuple L), .val (.int (wy up)), .val (.list E), .un] := by
    refine e_map (xs := S) (en := enc) (fun t => .bool (soft up t)) (by simp [itemsOf, hE]) (fun t ht => ?_) (by show _ ≤ 16777216; omega)
    have hs := hsp t ht
    cases t with
    | space w a o' b p =>
      have i1 := idxw up w a o' b p (.str "space")
      have i2 := idxo up w a o' b p (.str "space")
      by_cases h : 0 < am up (.space w a o' b p)
      · exact ⟨_, by simp [item, wipeE, enc, i1, i2, h, soft, isSp]; rfl, by simp [wipeE]⟩
      · exact ⟨_, by simp [item, wipeE, enc, i1, i2, h, soft, isSp]; rfl, by simp [wipeE]⟩
    | _ => exact nomatch hs
  have e3 : (ev (callN P W M) f15_c0).1 [.val (.tuple L), .val (.int (wy up)), .val (.list E), .un] = .ok (.f (.list (S.map fun t => .int (am up t)))) [.val (.tuple L), .val (.int (wy up)), .val (.list E), .un] := by
    refine e_map (xs := S) (en := enc) (fun t => .int (am up t)) (by simp [itemsOf, hE]) (fun t ht => ?_) (by show _ ≤ 16777216; omega)
    have hs := hsp t ht
    cases t with
    | space w a o' b p =>
      have i1 := idxw up w a o' b p (.str "space")
      exact ⟨_, by simp [item, wipeE, enc, i1]; rfl, by simp [wipeE]⟩
    | _ => exact nomatch hs
  have e4 := any_bools (soft up) S
  have e5 := sum_intsF (am up) S
  obtain ⟨A, hA⟩ : ∃ A, A = S.map fun t => PyData.bool (soft up t) := ⟨_, rfl⟩
  obtain ⟨B, hB⟩ : ∃ B, B = S.map fun t => PyData.int (am up t) := ⟨_, rfl⟩
  rw [← hA] at e2 e4
  rw [← hB] at e3 e5
  rw [step (df := f15) rfl rfl]
  by_cases h : S.any (soft up) = true
  · rw [h] at e4
    rw [if_pos h]
    simp [f15, e1, e2, e3, e4, e5, optD]
  · have h' : S.any (soft up) = false := by simpa using h
    rw [h'] at e4
    rw [if_neg h]
    simp [f15, e1, e2, e3, e4, e5, optD]
end K65

end
section
set_option linter.all false
set_option maxRecDepth 100000
set_option maxHeartbeats 4000000
/-! Places. -/
namespace K65
open PySem Ev
def isPl : Th → Bool
  | .place _ => true
  | _ => false
def enumL : Nat → List Th → List (Nat × Th)
  | _, [] => []
  | k, t :: l => (k, t) :: enumL (k + 1) l
def enP (p : Nat × Th) : D := .tuple [.int p.1, enc p.2]
theorem enumD_L : ∀ (l : List Th) (k : Nat), enumD k (encs l) = (enumL k l).map enP
  | [], k => rfl
  | t :: l, k => by
    show PyData.tuple [.int k, enc t] :: enumD (k + 1) (encs l) = _
    rw [enumD_L l (k + 1)]
    rfl
theorem enumL_len : ∀ (l : List Th) (k : Nat), (enumL k l).length = l.length
  | [], k => rfl
  | t :: l, k => by
    show (enumL (k + 1) l).length + 1 = l.length + 1
    rw [enumL_len l]
/-- where the places stand -/
def plM (l : List Th) : List Nat := ((enumL 0 l).filter fun p => isPl p.2).map (·.1)
theorem places7 {N : Nat} (hN : 1 ≤ N) (l : List Th) (hc : cnts l ≤ 100) : callN P W N 7 [.val (.tuple (encs l))] = .ok true (.list ((plM l).map fun n : Nat => .int n)) [] := by
  obtain ⟨M, rfl⟩ : ∃ M, N = M + 1 := ⟨N - 1, by omega⟩
  have hl := len_cnts l
  have e : (ev (callN P W M) f7_c0).1 [.val (.tuple (encs l)), .un, .un] = .ok (.f (.list (((enumL 0 l).filter fun p => isPl p.2).map fun p => .int p.1))) [.val (.tuple (encs l)), .un, .un] := by
    refine e_filter (xs := enumL 0 l) (en := enP) (fun p => isPl p.2) (fun p => .int p.1) (by simp [Ev.listOf, enumD_L]) (fun p hp => ?_) (by rw [enumL_len]; show _ ≤ 16777216; omega)
    obtain ⟨k, t⟩ := p
    cases t with
    | sign s => exact ⟨_, by simp [item, wipeE, enP, enc, idx0, isPl]; rfl, by simp [wipeE]⟩
    | kern n => exact ⟨_, by simp [item, wipeE, enP, enc, idx0, isPl]; rfl, by simp [wipeE]⟩
    | place n => exact ⟨_, by simp [item, wipeE, enP, enc, idx0, isPl]; rfl, by simp [wipeE]⟩
    | box k => exact ⟨_, by simp [item, wipeE, enP, enc, idx0, isPl]; rfl, by simp [wipeE]⟩
    | space w a o b p => exact ⟨_, by simp [item, wipeE, enP, enc, idx0, isPl]; rfl, by simp [wipeE]⟩
  unfold plM
  rw [List.map_map]
  rw [show (((fun n : Nat => PyData.int n) ∘ fun p : Nat × Th => p.1)) = (fun p : Nat × Th => PyData.int p.1) from rfl]
  obtain ⟨L, hL⟩ : ∃ L, L = encs l := ⟨_, rfl⟩
  obtain ⟨R, hR⟩ : ∃ R, R = ((enumL 0 l).filter fun p => isPl p.2).map fun p : Nat × Th => PyData.int p.1 := ⟨_, rfl⟩
  rw [← hL, ← hR] at e
  rw [← hL, ← hR, step (df := f7) rfl rfl]
  simp [f7, e]
theorem places33 {N : Nat} (hN : 1 ≤ N) (l : List Th) (hc : cnts l ≤ 100) : callN P W N 30 [.val (.tuple (encs l))] = .ok true (.list ((plM l).map fun n : Nat => .int n)) [] := by
  obtain ⟨M, rfl⟩ : ∃ M, N = M + 1 := ⟨N - 1, by omega⟩
  have hl := len_cnts l
  have e : (ev (callN P W M) f30_c0).1 [.val (.tuple (encs l)), .un, .un] = .ok (.f (.list (((enumL 0 l).filter fun p => isPl p.2).map fun p => .int p.1))) [.val (.tuple (encs l)), .un, .un] := by
    refine e_filter (xs := enumL 0 l) (en := enP) (fun p => isPl p.2) (fun p => .int p.1) (by simp [Ev.listOf, enumD_L]) (fun p hp => ?_) (by rw [enumL_len]; show _ ≤ 16777216; omega)
    obtain ⟨k, t⟩ := p
    cases t with
    | sign s => exact ⟨_, by simp [item, wipeE, enP, enc, idx0, isPl]; rfl, by simp [wipeE]⟩
    | kern n => exact ⟨_, by simp [item, wipeE, enP, enc, idx0, isPl]; rfl, by simp [wipeE]⟩
    | place n => exact ⟨_, by simp [item, wipeE, enP, enc, idx0, isPl]; rfl, by simp [wipeE]⟩
    | box k => exact ⟨_, by simp [item, wipeE, enP, enc, idx0, isPl]; rfl, by simp [wipeE]⟩
    | space w a o b p => exact ⟨_, by simp [item, wipeE, enP, enc, idx0, isPl]; rfl, by simp [wipeE]⟩
  unfold plM
  rw [List.map_map]
  rw [show (((fun n : Nat => PyData.int n) ∘ fun p : Nat × Th => p.1)) = (fun p : Nat × Th => PyData.int p.1) from rfl]
  obtain ⟨L, hL⟩ : ∃ L, L = encs l := ⟨_, rfl⟩
  obtain ⟨R, hR⟩ : ∃ R, R = ((enumL 0 l).filter fun p => isPl p.2).map fun p : Nat × Th => PyData.int p.1 := ⟨_, rfl⟩
  rw [← hL, ← hR] at e
  rw [← hL, ← hR, step (df := f30) rfl rfl]
  simp [f30, e]
end K65

end
section
set_option linter.all false
set_option maxRecDepth 100000
set_option maxHeartbeats 4000000
/-! A line of a passage. -/
namespace K65
open PySem Ev
/-! data that may be compared -/
mutual
theorem lay_t : ∀ (t : Th) (d : Nat), wf t d → (enc t).canLay0 = true ∧ PyData.depth (enc t) ≤ 2 * d + 2
  | .sign s, d, h => by
    have hs : PyData.strOk s = true := by
      simp [wf] at h
      rcases h with rfl | rfl | rfl | rfl | rfl <;> decide +kernel
    refine ⟨?_, ?_⟩
    · have h0 : PyData.strOk "sign" = true := by decide +kernel
      simp [enc, PyData.canLay0, PyData.canLayAll0, hs, h0]
    · simp [enc, PyData.depth, PyData.depthAll]
  | .kern n, d, h => by
    refine ⟨?_, ?_⟩
    · simp [enc, PyData.canLay0, PyData.canLayAll0]
      decide +kernel
    · simp [enc, PyData.depth, PyData.depthAll]
  | .place n, d, h => by
    refine ⟨?_, ?_⟩
    · simp [enc, PyData.canLay0, PyData.canLayAll0]
      decide +kernel
    · simp [enc, PyData.depth, PyData.depthAll]
  | .space w a o b p, d, h => by
    refine ⟨?_, ?_⟩
    · simp [enc, PyData.canLay0, PyData.canLayAll0]
      decide +kernel
    · simp [enc, PyData.depth, PyData.depthAll]
  | .box l, d, h => by
    obtain ⟨h1, h2⟩ := h
    obtain ⟨a1, a2⟩ := lay_l l (d - 1) h2
    refine ⟨?_, ?_⟩
    · simp [enc, PyData.canLay0, PyData.canLayAll0, a1]
      decide +kernel
    · simp [enc, PyData.depth, PyData.depthAll]
      omega
theorem lay_l : ∀ (l : List Th) (d : Nat), wfs l d → PyData.canLayAll0 (encs l) = true ∧ PyData.depthAll (encs l) ≤ 2 * d + 2
  | [], d, h => ⟨rfl, Nat.zero_le _⟩
  | t :: l, d, h => by
    obtain ⟨a1, a2⟩ := lay_t t d h.1
    obtain ⟨b1, b2⟩ := lay_l l d h.2
    refine ⟨?_, ?_⟩
    · show ((enc t).canLay0 && PyData.canLayAll0 (encs l)) = true
      rw [a1, b1]
      rfl
    · show max (PyData.depth (enc t)) (PyData.depthAll (encs l)) ≤ _
      omega
end

theorem ne_tup (l : List Th) {d : Nat} (hd : d ≤ 10) (h : wfs l d) : cop .ne (.tuple (encs l)) (.tuple []) = some (decide (l ≠ [])) := by
  obtain ⟨h1, h2⟩ := lay_l l d h
  have hs : eqOk (.tuple (encs l)) (.tuple []) = true := by
    have h1 : SeqAt.shaped (.tuple (encs l)) = true := by
      unfold SeqAt.shaped
      rw [Bool.and_eq_true]
      refine ⟨h1, decide_eq_true ?_⟩
      show PyData.depthAll _ + 1 ≤ 64
      omega
    unfold eqOk
    rw [h1]
    rfl
  show (if eqOk _ _ = true then some (!PyData.eqv (.tuple (encs l)) (.tuple [])) else none) = _
  rw [if_pos hs]
  cases l with
  | nil => rfl
  | cons i l => rfl
def hdT : Th → Bool
  | .sign _ => true
  | .box _ => true
  | _ => false
def kdS : Th → Str
  | .sign _ => "sign"
  | .kern _ => "kern"
  | .place _ => "place"
  | .space _ _ _ _ _ => "space"
  | .box _ => "box"
theorem idx_kd (t : Th) : idx (enc t) (.int 0) = some (.str (kdS t)) := by cases t <;> rfl
theorem in_hd (t : Th) : inOf (.str (kdS t)) (.tuple [.str "sign", .str "box"]) = some (hdT t) := by cases t <;> kernel_rfl
def lineM (l : List Th) : List Th := l.dropWhile fun t => !hdT t
theorem cut_tail (x : D) (l : List D) : cut (x :: l) (some 1) none = l := by simp [cut, sIx]
theorem loop17 (N : Nat) (s0 s1 s2 s3 : Sl) : ∀ (l : List Th) (d k : Nat), d ≤ 10 → wfs l d → l.length < k → whileN (fun r => (ev (callN P W N) (.and (.cmp .ne (.var 4) (.tup .nil)) (.cmp .notIn (.idx (.idx (.var 4) (.cst (.int 0))) (.cst (.int 0))) (.tup (.cons (.cst (.str "sign")) (.cons (.cst (.str "box")) .nil)))))).2 r) (fun r => evB (callN P W N) W f14_b0 r) k [s0, s1, s2, s3, .val (.tuple (encs l))] = .ok .nx [s0, s1, s2, s3, .val (.tuple (encs (lineM l)))]
  | [], d, k, hd, hw, hk => by
    obtain ⟨k, rfl⟩ : ∃ j, k = j + 1 := ⟨k - 1, by omega⟩
    have e' : cop .ne (.tuple ([] : List D)) (.tuple []) = some false := by kernel_rfl
    refine whl_end ?_
    show (ev (callN P W N) _).2 [s0, s1, s2, s3, .val (.tuple [])] = .ok false [s0, s1, s2, s3, .val (.tuple [])]
    simp [e', SZ]
  | t :: l, d, k, hd, hw, hk => by
    obtain ⟨k, rfl⟩ : ∃ j, k = j + 1 := ⟨k - 1, by omega⟩
    have e := ne_tup (t :: l) hd hw
    have e' : cop .ne (.tuple (enc t :: encs l)) (.tuple []) = some true := by rw [show enc t :: encs l = encs (t :: l) from rfl, e]; simp
    have i0 := idx0 (encs l) (enc t)
    have i1 := idx_kd t
    have i2 : cop .notIn (.str (kdS t)) (.tuple [.str "sign", .str "box"]) = some (!hdT t) := by cases t <;> kernel_rfl
    have hc : (ev (callN P W N) (.and (.cmp .ne (.var 4) (.tup .nil)) (.cmp .notIn (.idx (.idx (.var 4) (.cst (.int 0))) (.cst (.int 0))) (.tup (.cons (.cst (.str "sign")) (.cons (.cst (.str "box")) .nil)))))).2 [s0, s1, s2, s3, .val (.tuple (encs (t :: l)))] = .ok (!hdT t) [s0, s1, s2, s3, .val (.tuple (encs (t :: l)))] := by
      rw [show encs (t :: l) = enc t :: encs l from rfl]
      obtain ⟨T, hT⟩ : ∃ T, T = enc t := ⟨_, rfl⟩
      rw [← hT] at e' i0 i1 ⊢
      simp [e', i0, i1, i2, SZ]
    cases hh : hdT t with
    | true =>
      rw [hh] at hc
      have : lineM (t :: l) = t :: l := by unfold lineM; rw [List.dropWhile_cons]; simp [hh]
      rw [this]
      exact whl_end hc
    | false =>
      rw [hh] at hc
      have hl : lineM (t :: l) = lineM l := by unfold lineM; rw [List.dropWhile_cons]; simp [hh]
      have hb : evB (callN P W N) W f14_b0 [s0, s1, s2, s3, .val (.tuple (encs (t :: l)))] = .ok .nx [s0, s1, s2, s3, .val (.tuple (encs l))] := by
        rw [show encs (t :: l) = enc t :: encs l from rfl]
        simp [f14_b0, cut_tail]
      rw [hl, whl_nx hc hb]
      exact loop17 N s0 s1 s2 s3 l d k hd hw.2 (by rw [List.length_cons] at hk; omega)
end K65

end
section
set_option linter.all false
set_option maxRecDepth 100000
set_option maxHeartbeats 4000000
/-! A line of a passage. -/
namespace K65
open PySem Ev
theorem idx_natL (xs : List D) (k : Nat) (x : D) (h : xs[k]? = some x) : idx (.list xs) (.int k) = some x := by
  have hk : k < xs.length := (List.getElem?_eq_some_iff.mp h).1
  show (Ev.ixN xs.length (k : Int)).bind _ = _
  unfold Ev.ixN
  rw [if_pos (by omega), if_pos (by omega)]
  exact h
theorem enumL_lt : ∀ (l : List Th) (k : Nat) (p : Nat × Th), p ∈ enumL k l → p.1 < k + l.length
  | [], k, p, h => nomatch h
  | t :: l, k, p, h => by
    rcases List.mem_cons.mp h with rfl | h
    · show k < k + (l.length + 1)
      omega
    · have := enumL_lt l (k + 1) p h
      show p.1 < k + (l.length + 1)
      omega
theorem plM_lt (l : List Th) : ∀ n ∈ plM l, n < l.length := by
  intro n hn
  obtain ⟨p, hp, rfl⟩ := List.mem_map.mp hn
  have := enumL_lt l 0 p (List.mem_filter.mp hp).1
  omega
theorem encs_drop (l : List Th) (n : Nat) : (encs l).drop n = encs (l.drop n) := by rw [encs_map, encs_map, List.map_drop]
theorem encs_take (l : List Th) (n : Nat) : (encs l).take n = encs (l.take n) := by rw [encs_map, encs_map, List.map_take]
theorem cut_seg (l : List Th) (a b : Nat) (ha : a ≤ l.length) (hb : b ≤ l.length) : cut (encs l) (some (a : Int)) (some (b : Int)) = encs ((l.drop a).take (b - a)) := by
  have h : ∀ d k : Nat, k ≤ l.length → sIx (encs l).length d (some (k : Int)) = k := fun d k hk => by
    have h1 : ¬ (k : Int) < 0 := by omega
    have h2 : min k l.length = k := by omega
    simp [sIx, h1, encs_len, h2]
  unfold cut
  rw [h _ _ ha, h _ _ hb, encs_drop, encs_take]
end K65

end
section
set_option linter.all false
set_option maxRecDepth 100000
set_option maxHeartbeats 4000000
namespace K65
open PySem Ev
def startM (l : List Th) (f : Int) : Nat := if f < 0 then 0 else (plM l).getD f.toNat 0 + 1
def stopM (l : List Th) (j : Nat) : Nat := (plM l).getD j 0
def segM (l : List Th) (f : Int) (j : Nat) : List Th := (l.drop (startM l f)).take (stopM l j - startM l f)
theorem wfs_take : ∀ (l : List Th) (n d : Nat), wfs l d → wfs (l.take n) d
  | [], n, d, h => by rw [List.take_nil]; trivial
  | t :: l, 0, d, h => trivial
  | t :: l, n + 1, d, h => ⟨h.1, wfs_take l n d h.2⟩
theorem wfs_drop : ∀ (l : List Th) (n d : Nat), wfs l d → wfs (l.drop n) d
  | [], n, d, h => by rw [List.drop_nil]; trivial
  | t :: l, 0, d, h => h
  | t :: l, n + 1, d, h => wfs_drop l n d h.2
theorem line17 {N d : Nat} (hN : 2 ≤ N) (hd : d ≤ 10) (l : List Th) (hw : wfs l d) (hc : cnts l ≤ 100) (f : Int) (j : Nat) (hf : -1 ≤ f) (hfj : f < j) (hj : j < (plM l).length) :
    callN P W N 14 [.val (.tuple (encs l)), .val (.int f), .val (.int j)] = .ok false (.tuple (encs (lineM (segM l f j)))) [] := by
  obtain ⟨M, rfl⟩ : ∃ M, N = M + 1 := ⟨N - 1, by omega⟩
  have hlen := len_cnts l
  have e1 := places7 (N := M) (by omega) l hc
  have gj : (plM l)[j]? = some (stopM l j) := by unfold stopM; rw [List.getD_eq_getElem?_getD, List.getElem?_eq_getElem hj]; rfl
  have hb : stopM l j < l.length := plM_lt l _ (List.mem_of_getElem? gj)
  have ij : idx (.list ((plM l).map fun n : Nat => PyData.int n)) (.int j) = some (.int (stopM l j)) := idx_natL _ _ _ (by rw [List.getElem?_map, gj]; rfl)
  have hsw : wfs (segM l f j) d := wfs_take _ _ _ (wfs_drop _ _ _ hw)
  have hsl : (segM l f j).length ≤ 100 := by unfold segM; rw [List.length_take, List.length_drop]; omega
  have e3 := loop17 M (.val (.tuple (encs l))) (.val (.int f)) (.val (.int j)) (.val (.list ((plM l).map fun n : Nat => PyData.int n))) (segM l f j) d W hd hsw (by show _ < 1000000; omega)
  have e4 : evS (callN P W M) W f14_l0 [.val (.tuple (encs l)), .val (.int f), .val (.int j), .val (.list ((plM l).map fun n : Nat => PyData.int n)), .val (.tuple (encs (segM l f j)))] = .ok .nx [.val (.tuple (encs l)), .val (.int f), .val (.int j), .val (.list ((plM l).map fun n : Nat => PyData.int n)), .val (.tuple (encs (lineM (segM l f j))))] := by
    rw [show f14_l0 = IS.whl (.and (.cmp .ne (.var 4) (.tup .nil)) (.cmp .notIn (.idx (.idx (.var 4) (.cst (.int 0))) (.cst (.int 0))) (.tup (.cons (.cst (.str "sign")) (.cons (.cst (.str "box")) .nil))))) f14_b0 from rfl, s_whl]
    exact e3
  obtain ⟨PL, hPL⟩ : ∃ PL, PL = (plM l).map fun n : Nat => PyData.int n := ⟨_, rfl⟩
  rw [step (df := f14) rfl rfl]
  unfold f14
  obtain ⟨Z, hZ⟩ : ∃ Z, Z = f14_l0 := ⟨_, rfl⟩
  rw [← hZ] at e4 ⊢
  by_cases h0 : f < 0
  · have ha : startM l f = 0 := if_pos h0
    have hcut : cut (encs l) (some 0) (some (stopM l j : Int)) = encs (segM l f j) := by
      have := cut_seg l 0 (stopM l j) (Nat.zero_le _) (by omega)
      rw [Int.natCast_zero] at this
      rw [this]
      unfold segM
      rw [ha]
    obtain ⟨L, hL⟩ : ∃ L, L = encs l := ⟨_, rfl⟩
    obtain ⟨S, hS⟩ : ∃ S, S = encs (segM l f j) := ⟨_, rfl⟩
    obtain ⟨b, hb'⟩ : ∃ b : Int, b = stopM l j := ⟨_, rfl⟩
    rw [← hL, ← hPL] at e1
    rw [← hPL, ← hb'] at ij
    rw [← hL, ← hb', ← hS] at hcut
    rw [← hL, ← hPL, ← hS] at e4
    rw [← hL]
    simp [e1, ij, hcut, e4, h0]
  · obtain ⟨i, rfl⟩ : ∃ i : Nat, f = i := ⟨f.toNat, by omega⟩
    have gi : (plM l)[i]? = some ((plM l).getD i 0) := by rw [List.getD_eq_getElem?_getD, List.getElem?_eq_getElem (by omega)]; rfl
    have hil : (plM l).getD i 0 < l.length := plM_lt l _ (List.mem_of_getElem? gi)
    have ii : idx (.list ((plM l).map fun n : Nat => PyData.int n)) (.int i) = some (.int ((plM l).getD i 0 : Nat)) := idx_natL _ _ _ (by rw [List.getElem?_map, gi]; rfl)
    have ha : startM l i = (plM l).getD i 0 + 1 := by unfold startM; rw [if_neg h0]; rfl
    have hcut : cut (encs l) (some (((plM l).getD i 0 : Nat) + 1 : Int)) (some (stopM l j : Int)) = encs (segM l i j) := by
      have := cut_seg l ((plM l).getD i 0 + 1) (stopM l j) (by omega) (by omega)
      rw [Int.natCast_add] at this
      rw [show (((plM l).getD i 0 : Nat) + 1 : Int) = ((plM l).getD i 0 : Int) + ((1 : Nat) : Int) from rfl, this]
      unfold segM
      rw [ha]
    obtain ⟨L, hL⟩ : ∃ L, L = encs l := ⟨_, rfl⟩
    obtain ⟨S, hS⟩ : ∃ S, S = encs (segM l i j) := ⟨_, rfl⟩
    obtain ⟨b, hb'⟩ : ∃ b : Int, b = stopM l j := ⟨_, rfl⟩
    obtain ⟨q, hq⟩ : ∃ q : Int, q = ((plM l).getD i 0 : Nat) := ⟨_, rfl⟩
    rw [← hL, ← hPL] at e1
    rw [← hPL, ← hb'] at ij
    rw [← hPL, ← hq] at ii
    rw [← hL, ← hb', ← hS, ← hq] at hcut
    rw [← hL, ← hPL, ← hS] at e4
    rw [← hL]
    simp [e1, ij, ii, hcut, e4, h0]
end K65

end
section
set_option linter.all false
set_option maxRecDepth 100000
set_option maxHeartbeats 4000000
namespace K65
open PySem Ev
theorem first_hd : ∀ (S : List Th) (k : Nat), ((enumL k S).filter (fun p => hdT p.2) = [] ∧ lineM S = []) ∨ ∃ n p r, (enumL k S).filter (fun p => hdT p.2) = p :: r ∧ p.1 = k + n ∧ n ≤ S.length ∧ lineM S = S.drop n
  | [], k => .inl ⟨rfl, rfl⟩
  | t :: S, k => by
    show (List.filter (fun p : Nat × Th => hdT p.2) ((k, t) :: enumL (k + 1) S) = [] ∧ _) ∨ ∃ n p r, List.filter (fun p : Nat × Th => hdT p.2) ((k, t) :: enumL (k + 1) S) = p :: r ∧ _
    rw [List.filter_cons]
    cases hh : hdT t with
    | true =>
      right
      refine ⟨0, (k, t), _, by rw [if_pos rfl], by simp, Nat.zero_le _, ?_⟩
      unfold lineM
      rw [List.dropWhile_cons]
      simp [hh]
    | false =>
      have hl : lineM (t :: S) = lineM S := by unfold lineM; rw [List.dropWhile_cons]; simp [hh]
      rw [if_neg (by simp [hh]), hl]
      rcases first_hd S (k + 1) with ⟨h1, h2⟩ | ⟨n, p, r, h1, h2, h3, h4⟩
      · exact .inl ⟨h1, h2⟩
      · exact .inr ⟨n + 1, p, r, h1, by omega, by rw [List.length_cons]; omega, by rw [h4]; rfl⟩
end K65

end
section
set_option linter.all false
set_option maxRecDepth 100000
set_option maxHeartbeats 4000000
namespace K65
open PySem Ev
theorem ne_nil (l : List Int) : cop .ne (.list (l.map PyData.int)) (.list []) = some (decide (l ≠ [])) := by
  have hs : eqOk (.list (l.map PyData.int)) (.list []) = true := by
    have h1 : SeqAt.shaped (.list (l.map PyData.int)) = true := by
      induction l with
      | nil => rfl
      | cons i l ih => exact ih
    unfold eqOk
    rw [h1]
    rfl
  show (if eqOk _ _ = true then some (!PyData.eqv (.list (l.map PyData.int)) (.list [])) else none) = _
  rw [if_pos hs]
  cases l with
  | nil => rfl
  | cons i l => rfl
theorem cut_from (l : List Th) (a : Nat) (ha : a ≤ l.length) : cut (encs l) (some (a : Int)) none = encs (l.drop a) := by
  have h1 : ¬ (a : Int) < 0 := by omega
  have h2 : min a l.length = a := by omega
  unfold cut
  have h3 : sIx (encs l).length 0 (some (a : Int)) = a := by simp [sIx, h1, encs_len, h2]
  rw [h3]
  show ((encs l).drop a).take ((encs l).length - a) = _
  rw [encs_drop, List.take_of_length_le]
  rw [encs_len, encs_len, List.length_drop]
  exact Nat.le_refl _
theorem line34 {N d : Nat} (hN : 2 ≤ N) (l : List Th) (hw : wfs l d) (hc : cnts l ≤ 100) (f : Int) (j : Nat) (hf : -1 ≤ f) (hfj : f < j) (hj : j < (plM l).length) :
    callN P W N 31 [.val (.tuple (encs l)), .val (.int f), .val (.int j)] = .ok false (.tuple (encs (lineM (segM l f j)))) [] := by
  obtain ⟨M, rfl⟩ : ∃ M, N = M + 1 := ⟨N - 1, by omega⟩
  have hlen := len_cnts l
  have e1 := places33 (N := M) (by omega) l hc
  have gj : (plM l)[j]? = some (stopM l j) := by unfold stopM; rw [List.getD_eq_getElem?_getD, List.getElem?_eq_getElem hj]; rfl
  have hb : stopM l j < l.length := plM_lt l _ (List.mem_of_getElem? gj)
  have ij : idx (.list ((plM l).map fun n : Nat => PyData.int n)) (.int j) = some (.int (stopM l j)) := idx_natL _ _ _ (by rw [List.getElem?_map, gj]; rfl)
  have hsl : (segM l f j).length ≤ 100 := by unfold segM; rw [List.length_take, List.length_drop]; omega
  obtain ⟨G, hG⟩ : ∃ G, G = (enumL 0 (segM l f j)).filter fun p => hdT p.2 := ⟨_, rfl⟩
  have ec : ∀ s0 s1 s2 s3 s5, (ev (callN P W M) f31_c0).1 [s0, s1, s2, s3, .val (.tuple (encs (segM l f j))), s5, .un, .un] = .ok (.f (.list ((G.map fun p : Nat × Th => (p.1 : Int)).map PyData.int))) [s0, s1, s2, s3, .val (.tuple (encs (segM l f j))), s5, .un, .un] := fun s0 s1 s2 s3 s5 => by
    rw [List.map_map, hG]
    refine e_filter (xs := enumL 0 (segM l f j)) (en := enP) (fun p => hdT p.2) (fun p => .int p.1) (by simp [Ev.listOf, enumD_L]) (fun p hp => ?_) (by rw [enumL_len]; show _ ≤ 16777216; omega)
    obtain ⟨k, t⟩ := p
    have i1 := idx_kd t
    have i2 := in_hd t
    cases hh : hdT t with
    | true => rw [hh] at i2; exact ⟨_, by simp [item, wipeE, enP, i1, i2, hh, SZ]; rfl, by simp [wipeE]⟩
    | false => rw [hh] at i2; exact ⟨_, by simp [item, wipeE, enP, i1, i2, hh, SZ]; rfl, by simp [wipeE]⟩
  have en := ne_nil (G.map fun p : Nat × Th => (p.1 : Int))
  have fin : ∃ b : Bool, cop .ne (.list ((G.map fun p : Nat × Th => (p.1 : Int)).map PyData.int)) (.list []) = some b ∧ ((b = false ∧ lineM (segM l f j) = []) ∨ (b = true ∧ ∃ n : Nat, idx (.list ((G.map fun p : Nat × Th => (p.1 : Int)).map PyData.int)) (.int 0) = some (.int n) ∧ cut (encs (segM l f j)) (some (n : Int)) none = encs (lineM (segM l f j)))) := by
    rcases first_hd (segM l f j) 0 with ⟨h1, h2⟩ | ⟨n, p, r, h1, h2, h3, h4⟩
    · rw [← hG] at h1
      exact ⟨false, by rw [en, h1]; rfl, .inl ⟨rfl, h2⟩⟩
    · rw [← hG] at h1
      refine ⟨true, by rw [en, h1]; rfl, .inr ⟨rfl, n, ?_, ?_⟩⟩
      · rw [h1, Nat.zero_add] at *
        rw [← h2]
        exact idx_natL _ 0 _ rfl
      · rw [cut_from _ _ h3, h4]
  obtain ⟨b, eb, hfin⟩ := fin
  have hseg : ∃ a : Int, (ev (callN P W M) (.ife (.cmp .ge (.var 1) (.cst (.int 0))) (.bin .add (.idx (.var 3) (.var 1)) (.cst (.int 1))) (.cst (.int 0)))).1 [.val (.tuple (encs l)), .val (.int f), .val (.int j), .val (.list ((plM l).map fun n : Nat => PyData.int n)), .un, .un, .un, .un] = .ok (.d (.int a)) [.val (.tuple (encs l)), .val (.int f), .val (.int j), .val (.list ((plM l).map fun n : Nat => PyData.int n)), .un, .un, .un, .un] ∧ cut (encs l) (some a) (some (stopM l j : Int)) = encs (segM l f j) := by
    obtain ⟨PL, hPL⟩ : ∃ PL, PL = (plM l).map fun n : Nat => PyData.int n := ⟨_, rfl⟩
    by_cases h0 : f < 0
    · have ha : startM l f = 0 := if_pos h0
      have hn : ¬ 0 ≤ f := by omega
      refine ⟨0, ?_, ?_⟩
      · rw [← hPL]
        simp [hn]
      · have := cut_seg l 0 (stopM l j) (Nat.zero_le _) (by omega)
        rw [Int.natCast_zero] at this
        rw [this]
        unfold segM
        rw [ha]
    · obtain ⟨i, rfl⟩ : ∃ i : Nat, f = i := ⟨f.toNat, by omega⟩
      have gi : (plM l)[i]? = some ((plM l).getD i 0) := by rw [List.getD_eq_getElem?_getD, List.getElem?_eq_getElem (by omega)]; rfl
      have hil : (plM l).getD i 0 < l.length := plM_lt l _ (List.mem_of_getElem? gi)
      have ii : idx (.list ((plM l).map fun n : Nat => PyData.int n)) (.int i) = some (.int ((plM l).getD i 0 : Nat)) := idx_natL _ _ _ (by rw [List.getElem?_map, gi]; rfl)
      have ha : startM l i = (plM l).getD i 0 + 1 := by unfold startM; rw [if_neg h0]; rfl
      refine ⟨((plM l).getD i 0 : Nat) + 1, ?_, ?_⟩
      · rw [← hPL] at ii ⊢
        obtain ⟨q, hq⟩ : ∃ q : Int, q = ((plM l).getD i 0 : Nat) := ⟨_, rfl⟩
        rw [← hq] at ii ⊢
        simp [ii]
      · have := cut_seg l ((plM l).getD i 0 + 1) (stopM l j) (by omega) (by omega)
        rw [Int.natCast_add] at this
        rw [show (((plM l).getD i 0 : Nat) + 1 : Int) = ((plM l).getD i 0 : Int) + ((1 : Nat) : Int) from rfl, this]
        unfold segM
        rw [ha]
  obtain ⟨a, ea, hcut⟩ := hseg
  obtain ⟨Q, hQ⟩ : ∃ Q : IE, Q = .ife (.cmp .ge (.var 1) (.cst (.int 0))) (.bin .add (.idx (.var 3) (.var 1)) (.cst (.int 1))) (.cst (.int 0)) := ⟨_, rfl⟩
  rw [step (df := f31) rfl rfl]
  rw [show f31.body = IB.cons (.asg (.n 3 false) (.call 30 "_law_places" (.cons (.var 0) .nil))) (.cons (.asg (.n 4 false) (.slc (.var 0) (.yes (.ife (.cmp .ge (.var 1) (.cst (.int 0))) (.bin .add (.idx (.var 3) (.var 1)) (.cst (.int 1))) (.cst (.int 0)))) (.yes (.idx (.var 3) (.var 2))))) (.cons (.asg (.n 5 false) f31_c0) (.cons (.ret (.ife (.cmp .ne (.var 5) (.lst .nil)) (.slc (.var 4) (.yes (.idx (.var 5) (.cst (.int 0)))) .no) (.tup .nil))) .nil))) from rfl]
  rw [show ([Sl.val (.tuple (encs l)), .val (.int f), .val (.int j)] ++ List.replicate (f31.names.length - f31.np) .un : Ev.Env) = [.val (.tuple (encs l)), .val (.int f), .val (.int j), .un, .un, .un, .un, .un] from rfl]
  rw [← hQ] at ea ⊢
  obtain ⟨Z, hZ⟩ : ∃ Z, Z = f31_c0 := ⟨_, rfl⟩
  obtain ⟨L, hL⟩ : ∃ L, L = encs l := ⟨_, rfl⟩
  obtain ⟨S, hS⟩ : ∃ S, S = encs (segM l f j) := ⟨_, rfl⟩
  obtain ⟨PL, hPL⟩ : ∃ PL, PL = (plM l).map fun n : Nat => PyData.int n := ⟨_, rfl⟩
  obtain ⟨GL, hGL⟩ : ∃ GL, GL = (G.map fun p : Nat × Th => (p.1 : Int)).map PyData.int := ⟨_, rfl⟩
  obtain ⟨t, ht⟩ : ∃ t : Int, t = stopM l j := ⟨_, rfl⟩
  rw [← hL, ← hPL] at e1
  rw [← hPL, ← ht] at ij
  rw [← hZ, ← hS, ← hGL] at ec
  rw [← hL, ← hPL] at ea
  rw [← hL, ← ht, ← hS] at hcut
  rw [← hGL] at eb hfin
  rw [← hS] at hfin
  rw [← hL, ← hZ]
  rcases hfin with ⟨rfl, h1⟩ | ⟨rfl, n, h1, h2⟩
  · have h1' : encs (lineM (segM l f j)) = [] := by rw [h1]; rfl
    rw [h1']
    simp [e1, ea, ij, hcut, ec, eb, SZ]
  · obtain ⟨R, hR⟩ : ∃ R, R = encs (lineM (segM l f j)) := ⟨_, rfl⟩
    obtain ⟨m, hm⟩ : ∃ m : Int, m = n := ⟨_, rfl⟩
    rw [← hR, ← hm] at h2
    rw [← hm] at h1
    rw [← hR]
    simp [e1, ea, ij, hcut, ec, eb, h1, h2, SZ]
end K65

end
section
set_option maxRecDepth 100000
local macro_rules | `(tactic| simp! [$ts,*]) => `(tactic| simp only [Ev.bind_ok', Ev.bind_stuck', Ev.bind_ite, Ev.of_some', Ev.of_none', Ev.of_ite, Ev.slD_val, Ev.slD_own, Ev.slD_bor, Ev.deref_d, Ev.deref_f, Ev.deref_s, Ev.tru_eq, Ev.truS_some, Ev.truth_bool, Ev.truth_int, Ev.truth_list, Ev.truth_tuple, Ev.un1S_some, Ev.bi2S_some, Ev.andK_b, Ev.orK_b, Ev.negK_i, Ev.varK_val, Ev.varK_own, Ev.varK_bor, Ev.solS_val, Ev.solS_own, Ev.sol_d, Ev.sol_f, Ev.sol_s, Ev.muS_own, Ev.muS_bor, Ev.mutAt_eq, Ev.bop_add, Ev.bop_sub, Ev.bop_mul, Ev.bop_div, Ev.bop_mod, Ev.bop_tup, Ev.bop_lst, Ev.cop_lt, Ev.cop_le, Ev.cop_gt, Ev.cop_ge, Ev.cop_eqi, Ev.cop_eqs, Ev.cop_nei, Ev.cop_nes, Ev.cop_is, Ev.cop_isNot, Ev.cop_in, Ev.is_bb, Ev.e_none, Ev.e_bool, Ev.e_int, Ev.e_str, Ev.e_var, Ev.e_glob, Ev.e_bin, Ev.e_neg, Ev.e_cmp, Ev.chnS_some, Ev.e_chn, Ev.e_not, Ev.e_and, Ev.e_or, Ev.e_ife, Ev.e_tup, Ev.e_lst, Ev.e_idx, Ev.e_isi, Ev.e_bl1, Ev.e_bl2, Ev.callK_v, Ev.callK_f, Ev.callK_v1, Ev.callK_f1, Ev.callK_v2, Ev.argK_some, Ev.e_call, Ev.argsS_nil, Ev.argsS_v, Ev.argsS_l, Ev.lends_nil, Ev.lends_v, Ev.lends_l, Ev.a_nil, Ev.a_cons, Ev.r_nil, Ev.r_cons, Ev.lendK_some, Ev.r_lend, Ev.o_no, Ev.derK_some, Ev.o_yes, Ev.t_no, Ev.t_yes, Ev.i_val, Ev.slS_some, Ev.e_slc, Ev.opt_none, Ev.opt_int, Ev.slice_list, Ev.slice_tup, Ev.e_dsp, Ev.dicS_some, Ev.e_mg2, Ev.rgK_i, Ev.i_rg1, Ev.rgK2_i, Ev.i_rg2, Ev.enK_some, Ev.i_enm, Ev.zpK_some, Ev.i_zip, Ev.c_cst, Ev.c_var, Ev.c_cmp, Ev.c_chn, Ev.c_isi, Ev.c_call, Ev.c_bl1, Ev.c_not, Ev.c_and, Ev.c_or, Ev.c_ife, Ev.seqK_nx, Ev.seqK_brk, Ev.seqK_cnt, Ev.seqK_ret, Ev.seqK_exc, Ev.seqK_stuck, Ev.seqK_ite, Ev.b_nil, Ev.b_cons, Ev.retK_d, Ev.retK_f, Ev.s_ret, Ev.s_retN, Ev.s_asg, Ev.s_ex, Ev.s_if, Ev.s_for, Ev.s_whl, Ev.s_pas, Ev.s_rse, Ev.stoK_un, Ev.stoK_val, Ev.stoK_own, Ev.asn_d, Ev.asn_f, Ev.asn_fo, Ev.asn_t, Ev.asnL_nil, Ev.asnL_cons, Ev.asnP_nil, Ev.asnP_cons, Ev.s_asp, Ev.fK_f, Ev.fK_d, Ev.fK_s, Ev.f_nil, Ev.f_cons, Ev.lendF_some, Ev.setS_own, Ev.setS_bor, Ev.setAt_eq, Ev.ixK_some, Ev.setK_l, Ev.s_sto, Ev.outs_nil, Ev.outs_v, Ev.outs_b, Ev.endK_nx, Ev.endK_ret, Ev.endK_exc, Ev.endK_stuck, Ev.endK_ite, Ev.endS_some, Ev.endCall_eq, Ev.e_emp, Ev.e_din, Ev.e_dix, Ev.sdkS_some, Ev.e_sdk, Ev.e_tin, Ev.e_tix, Ev.e_tg1, Ev.e_tg2, Ev.e_sdt, Ev.c_din, Ev.c_tin, Ev.s_dst, Ev.s_tst, Ev.isN_none, Ev.isN_bool, Ev.isN_int, Ev.isN_str, Ev.isN_list, Ev.isN_tup, Ev.isN_dict, Ev.e_mg1, Ev.appL_l, Ev.appK_l, Ev.s_app, Ev.nd_none, Ev.ty_int_none, Ev.ty_bool_none, Ev.ty_str_none, Ev.ty_tuple_none, Ev.ty_list_none, Ev.nd_bool, Ev.ty_int_bool, Ev.ty_bool_bool, Ev.ty_str_bool, Ev.ty_tuple_bool, Ev.ty_list_bool, Ev.nd_int, Ev.ty_int_int, Ev.ty_bool_int, Ev.ty_str_int, Ev.ty_tuple_int, Ev.ty_list_int, Ev.nd_str, Ev.ty_int_str, Ev.ty_bool_str, Ev.ty_str_str, Ev.ty_tuple_str, Ev.ty_list_str, Ev.nd_list, Ev.ty_int_list, Ev.ty_bool_list, Ev.ty_str_list, Ev.ty_tuple_list, Ev.ty_list_list, Ev.nd_tup, Ev.ty_int_tup, Ev.ty_bool_tup, Ev.ty_str_tup, Ev.ty_tuple_tup, Ev.ty_list_tup, Ev.nd_dict, Ev.ty_int_dict, Ev.ty_bool_dict, Ev.ty_str_dict, Ev.ty_tuple_dict, Ev.ty_list_dict, List.getElem?_cons_zero, List.getElem?_cons_succ, List.getElem?_nil, List.set_cons_zero, List.set_cons_succ, List.length_cons, List.length_nil, List.replicate_succ, List.replicate_zero, List.cons_append, List.nil_append, List.append_nil, List.nodup_nil, List.nodup_cons, List.mem_cons, List.not_mem_nil, List.isEmpty_nil, List.isEmpty_cons, Option.map_some, Option.map_none, Option.bind_some, Option.bind_none, Option.getD_some, Option.getD_none, Option.isSome_some, Option.isSome_none, Option.isNone_some, Option.isNone_none, ite_true, ite_false, if_true, if_false, decide_true, decide_false, decide_eq_true_eq, Bool.not_true, Bool.not_false, Bool.not_not, Bool.true_and, Bool.false_and, Bool.and_true, Bool.and_false, Bool.or_true, Bool.or_false, Bool.true_or, Bool.false_or, Bool.not_eq_true, Bool.not_eq_true', Bool.and_self, Bool.or_self, Bool.false_eq_true, reduceCtorEq, not_true_eq_false, not_false_eq_true, or_false, false_or, or_true, true_or, and_true, true_and, and_false, false_and, eq_self, bne_self_eq_false, Nat.reduceAdd, Nat.reduceSub, Nat.reduceLeDiff, Nat.reduceLT, Nat.reduceEqDiff, Nat.zero_add, Nat.reduceMul, Int.reduceNeg, Int.reduceAdd, Int.reduceSub, Int.reduceMul, Int.reduceLT, Int.reduceLE, Int.reduceEq, Int.reduceDiv, Int.reduceMod, Int.reduceToNat, Int.reducePow, Nat.succ_ne_zero, Nat.add_eq_zero_iff, Nat.le_refl, Nat.one_ne_zero, ↓reduceIte, Ev.SZ, $ts,*])
set_option linter.all false
set_option maxRecDepth 100000
set_option maxHeartbeats 4000000
/-! Which widths a line fits. -/
namespace K65
open PySem Ev
theorem wfs_iff (d : Nat) : ∀ l : List Th, wfs l d ↔ ∀ t ∈ l, wf t d
  | [] => ⟨fun _ _ h => (nomatch h), fun _ => trivial⟩
  | t :: l => ⟨fun h x hx => wfs_le _ d h x hx, fun h => ⟨h t List.mem_cons_self, (wfs_iff d l).mpr fun x hx => h x (List.mem_cons_of_mem _ hx)⟩⟩
theorem cnts_sub {a b : List Th} (h : a.Sublist b) : cnts a ≤ cnts b := by
  induction h with
  | slnil => exact Nat.le_refl _
  | cons t _ ih => show _ ≤ cnt t + cnts _; omega
  | cons_cons t _ ih => show cnt t + cnts _ ≤ cnt t + cnts _; omega
theorem seg_sub (l : List Th) (f : Int) (j : Nat) : (lineM (segM l f j)).Sublist l :=
  (List.dropWhile_sublist _).trans ((List.take_sublist _ _).trans (List.drop_sublist _ _))
theorem sub_wf {a b : List Th} {d : Nat} (h : a.Sublist b) (hb : wfs b d) : wfs a d := (wfs_iff d a).mpr fun t ht => (wfs_iff d b).mp hb t (h.subset ht)
def optP : Option (Int × Int) → D
  | none => .none
  | some p => .tuple [.int p.1, .int p.2]
def loM (l : List Th) : Int := match slackM false l with
  | none => 0
  | some s => if 0 < wds l - s then wds l - s else 0
def hiM (l : List Th) (m : Int) : Int := match slackM true l with
  | none => 1000000000
  | some s => if wds l + m * s < 1000000000 then wds l + m * s else 1000000000
def fitM (l : List Th) (m : Int) : Option (Int × Int) := if loM l ≤ hiM l m then some (loM l, hiM l m) else none
def lineP (l : List Th) (i : Int) (j : Nat) : List Th := lineM (segM l i j)
theorem fit19 {N d : Nat} (hN : 12 ≤ N) (hd : d ≤ 2) (l : List Th) (hw : wfs l d) (hc : cnts l ≤ 100) (f : Int) (j : Nat) (hf : -1 ≤ f) (hfj : f < j) (hj : j < (plM l).length) (m : Int) (hm : 0 ≤ m ∧ m ≤ 10) :
    callN P W N 16 [.val (.tuple (encs l)), .val (.int m), .val (.int f), .val (.int j)] = .ok false (optP (fitM (lineP l f j) m)) [] := by
  obtain ⟨M, rfl⟩ : ∃ M, N = M + 1 := ⟨N - 1, by omega⟩
  have e1 := line17 (N := M) (d := d) (by omega) (by omega) l hw hc f j hf hfj hj
  have hs := seg_sub l f j
  have hc2 := cnts_sub hs
  have e2 := (wide_all d).2 M (by omega) _ (sub_wf hs hw) (by omega)
  have e3 : callN P W M 15 [.val (.tuple (encs (lineM (segM l f j)))), .val (.int 2)] = _ := slack18 (N := M) (by omega) true (lineM (segM l f j)) (by omega)
  have e4 : callN P W M 15 [.val (.tuple (encs (lineM (segM l f j)))), .val (.int 4)] = _ := slack18 (N := M) (by omega) false (lineM (segM l f j)) (by omega)
  rw [step (df := f16) rfl rfl]
  unfold lineP
  generalize lineM (segM l f j) = L at *
  have hmul : ∀ s, mulOk m s = true := fun s => mulOk_l (by omega) (by omega)
  have b8 : ∀ s : Int, b2 .max (.int 0) (.int s) = some (.int (if 0 < s then s else 0)) := fun s => rfl
  have b9 : ∀ s : Int, b2 .min (.int 1000000000) (.int s) = some (.int (if s < 1000000000 then s else 1000000000)) := fun s => rfl
  unfold fitM loM hiM
  cases h2 : slackM true L with
  | none =>
    cases h4 : slackM false L with
    | none => rw [h2] at e3; rw [h4] at e4; simp! [f16, e1, e2, e3, e4, optD, b8, b9, hmul]; rfl
    | some s => 
      rw [h2] at e3; rw [h4] at e4
      by_cases hle : (if 0 < wds L - s then wds L - s else 0) ≤ 1000000000
      · simp! [f16, e1, e2, e3, e4, optD, b8, b9, hmul, hle]; rfl
      · simp! [f16, e1, e2, e3, e4, optD, b8, b9, hmul, hle]; rfl
  | some t =>
    cases h4 : slackM false L with
    | none => 
      rw [h2] at e3; rw [h4] at e4
      by_cases hle : 0 ≤ (if wds L + m * t < 1000000000 then wds L + m * t else 1000000000)
      · simp! [f16, e1, e2, e3, e4, optD, b8, b9, hmul, hle]; rfl
      · simp! [f16, e1, e2, e3, e4, optD, b8, b9, hmul, hle]; rfl
    | some s => 
      rw [h2] at e3; rw [h4] at e4
      by_cases hle : (if 0 < wds L - s then wds L - s else 0) ≤ (if wds L + m * t < 1000000000 then wds L + m * t else 1000000000)
      · simp! [f16, e1, e2, e3, e4, optD, b8, b9, hmul, hle]; rfl
      · simp! [f16, e1, e2, e3, e4, optD, b8, b9, hmul, hle]; rfl
end K65

end
section
set_option maxRecDepth 100000
local macro_rules | `(tactic| simp! [$ts,*]) => `(tactic| simp only [Ev.bind_ok', Ev.bind_stuck', Ev.bind_ite, Ev.of_some', Ev.of_none', Ev.of_ite, Ev.slD_val, Ev.slD_own, Ev.slD_bor, Ev.deref_d, Ev.deref_f, Ev.deref_s, Ev.tru_eq, Ev.truS_some, Ev.truth_bool, Ev.truth_int, Ev.truth_list, Ev.truth_tuple, Ev.un1S_some, Ev.bi2S_some, Ev.andK_b, Ev.orK_b, Ev.negK_i, Ev.varK_val, Ev.varK_own, Ev.varK_bor, Ev.solS_val, Ev.solS_own, Ev.sol_d, Ev.sol_f, Ev.sol_s, Ev.muS_own, Ev.muS_bor, Ev.mutAt_eq, Ev.bop_add, Ev.bop_sub, Ev.bop_mul, Ev.bop_div, Ev.bop_mod, Ev.bop_tup, Ev.bop_lst, Ev.cop_lt, Ev.cop_le, Ev.cop_gt, Ev.cop_ge, Ev.cop_eqi, Ev.cop_eqs, Ev.cop_nei, Ev.cop_nes, Ev.cop_is, Ev.cop_isNot, Ev.cop_in, Ev.is_bb, Ev.e_none, Ev.e_bool, Ev.e_int, Ev.e_str, Ev.e_var, Ev.e_glob, Ev.e_bin, Ev.e_neg, Ev.e_cmp, Ev.chnS_some, Ev.e_chn, Ev.e_not, Ev.e_and, Ev.e_or, Ev.e_ife, Ev.e_tup, Ev.e_lst, Ev.e_idx, Ev.e_isi, Ev.e_bl1, Ev.e_bl2, Ev.callK_v, Ev.callK_f, Ev.callK_v1, Ev.callK_f1, Ev.callK_v2, Ev.argK_some, Ev.e_call, Ev.argsS_nil, Ev.argsS_v, Ev.argsS_l, Ev.lends_nil, Ev.lends_v, Ev.lends_l, Ev.a_nil, Ev.a_cons, Ev.r_nil, Ev.r_cons, Ev.lendK_some, Ev.r_lend, Ev.o_no, Ev.derK_some, Ev.o_yes, Ev.t_no, Ev.t_yes, Ev.i_val, Ev.slS_some, Ev.e_slc, Ev.opt_none, Ev.opt_int, Ev.slice_list, Ev.slice_tup, Ev.e_dsp, Ev.dicS_some, Ev.e_mg2, Ev.rgK_i, Ev.i_rg1, Ev.rgK2_i, Ev.i_rg2, Ev.enK_some, Ev.i_enm, Ev.zpK_some, Ev.i_zip, Ev.c_cst, Ev.c_var, Ev.c_cmp, Ev.c_chn, Ev.c_isi, Ev.c_call, Ev.c_bl1, Ev.c_not, Ev.c_and, Ev.c_or, Ev.c_ife, Ev.seqK_nx, Ev.seqK_brk, Ev.seqK_cnt, Ev.seqK_ret, Ev.seqK_exc, Ev.seqK_stuck, Ev.seqK_ite, Ev.b_nil, Ev.b_cons, Ev.retK_d, Ev.retK_f, Ev.s_ret, Ev.s_retN, Ev.s_asg, Ev.s_ex, Ev.s_if, Ev.s_for, Ev.s_whl, Ev.s_pas, Ev.s_rse, Ev.stoK_un, Ev.stoK_val, Ev.stoK_own, Ev.asn_d, Ev.asn_f, Ev.asn_fo, Ev.asn_t, Ev.asnL_nil, Ev.asnL_cons, Ev.asnP_nil, Ev.asnP_cons, Ev.s_asp, Ev.fK_f, Ev.fK_d, Ev.fK_s, Ev.f_nil, Ev.f_cons, Ev.lendF_some, Ev.setS_own, Ev.setS_bor, Ev.setAt_eq, Ev.ixK_some, Ev.setK_l, Ev.s_sto, Ev.outs_nil, Ev.outs_v, Ev.outs_b, Ev.endK_nx, Ev.endK_ret, Ev.endK_exc, Ev.endK_stuck, Ev.endK_ite, Ev.endS_some, Ev.endCall_eq, Ev.e_emp, Ev.e_din, Ev.e_dix, Ev.sdkS_some, Ev.e_sdk, Ev.e_tin, Ev.e_tix, Ev.e_tg1, Ev.e_tg2, Ev.e_sdt, Ev.c_din, Ev.c_tin, Ev.s_dst, Ev.s_tst, Ev.isN_none, Ev.isN_bool, Ev.isN_int, Ev.isN_str, Ev.isN_list, Ev.isN_tup, Ev.isN_dict, Ev.e_mg1, Ev.appL_l, Ev.appK_l, Ev.s_app, Ev.nd_none, Ev.ty_int_none, Ev.ty_bool_none, Ev.ty_str_none, Ev.ty_tuple_none, Ev.ty_list_none, Ev.nd_bool, Ev.ty_int_bool, Ev.ty_bool_bool, Ev.ty_str_bool, Ev.ty_tuple_bool, Ev.ty_list_bool, Ev.nd_int, Ev.ty_int_int, Ev.ty_bool_int, Ev.ty_str_int, Ev.ty_tuple_int, Ev.ty_list_int, Ev.nd_str, Ev.ty_int_str, Ev.ty_bool_str, Ev.ty_str_str, Ev.ty_tuple_str, Ev.ty_list_str, Ev.nd_list, Ev.ty_int_list, Ev.ty_bool_list, Ev.ty_str_list, Ev.ty_tuple_list, Ev.ty_list_list, Ev.nd_tup, Ev.ty_int_tup, Ev.ty_bool_tup, Ev.ty_str_tup, Ev.ty_tuple_tup, Ev.ty_list_tup, Ev.nd_dict, Ev.ty_int_dict, Ev.ty_bool_dict, Ev.ty_str_dict, Ev.ty_tuple_dict, Ev.ty_list_dict, List.getElem?_cons_zero, List.getElem?_cons_succ, List.getElem?_nil, List.set_cons_zero, List.set_cons_succ, List.length_cons, List.length_nil, List.replicate_succ, List.replicate_zero, List.cons_append, List.nil_append, List.append_nil, List.nodup_nil, List.nodup_cons, List.mem_cons, List.not_mem_nil, List.isEmpty_nil, List.isEmpty_cons, Option.map_some, Option.map_none, Option.bind_some, Option.bind_none, Option.getD_some, Option.getD_none, Option.isSome_some, Option.isSome_none, Option.isNone_some, Option.isNone_none, ite_true, ite_false, if_true, if_false, decide_true, decide_false, decide_eq_true_eq, Bool.not_true, Bool.not_false, Bool.not_not, Bool.true_and, Bool.false_and, Bool.and_true, Bool.and_false, Bool.or_true, Bool.or_false, Bool.true_or, Bool.false_or, Bool.not_eq_true, Bool.not_eq_true', Bool.and_self, Bool.or_self, Bool.false_eq_true, reduceCtorEq, not_true_eq_false, not_false_eq_true, or_false, false_or, or_true, true_or, and_true, true_and, and_false, false_and, eq_self, bne_self_eq_false, Nat.reduceAdd, Nat.reduceSub, Nat.reduceLeDiff, Nat.reduceLT, Nat.reduceEqDiff, Nat.zero_add, Nat.reduceMul, Int.reduceNeg, Int.reduceAdd, Int.reduceSub, Int.reduceMul, Int.reduceLT, Int.reduceLE, Int.reduceEq, Int.reduceDiv, Int.reduceMod, Int.reduceToNat, Int.reducePow, Nat.succ_ne_zero, Nat.add_eq_zero_iff, Nat.le_refl, Nat.one_ne_zero, ↓reduceIte, Ev.SZ, $ts,*])
set_option linter.all false
set_option maxRecDepth 100000
set_option maxHeartbeats 4000000
/-! The law's word on which widths a line fits. -/
namespace K65
open PySem Ev
mutual
theorem wd_b : ∀ (t : Th) (d : Nat), wf t d → -31 * (cnt t : Int) ≤ wd t ∧ wd t ≤ 31 * (cnt t : Int)
  | .sign s, d, h => by show (-31 * ((1 : Nat) : Int) ≤ 10 ∧ (10 : Int) ≤ 31 * ((1 : Nat) : Int)); omega
  | .kern n, d, h => by
    have h' : -7 ≤ n ∧ n ≤ 31 := h
    show (-31 * ((1 : Nat) : Int) ≤ n ∧ n ≤ 31 * ((1 : Nat) : Int)); omega
  | .place n, d, h => by show (-31 * ((1 : Nat) : Int) ≤ 0 ∧ (0 : Int) ≤ 31 * ((1 : Nat) : Int)); omega
  | .space w a o b p, d, h => by
    have h' : -3 ≤ w ∧ w ≤ 10 := h.1
    show (-31 * ((1 : Nat) : Int) ≤ w ∧ w ≤ 31 * ((1 : Nat) : Int)); omega
  | .box l, d, h => by
    have := wds_b l (d - 1) h.2
    show (-31 * ((cnts l + 1 : Nat) : Int) ≤ wds l ∧ wds l ≤ 31 * ((cnts l + 1 : Nat) : Int)); omega
theorem wds_b : ∀ (l : List Th) (d : Nat), wfs l d → -31 * (cnts l : Int) ≤ wds l ∧ wds l ≤ 31 * (cnts l : Int)
  | [], d, h => by show (-31 * ((0 : Nat) : Int) ≤ 0 ∧ (0 : Int) ≤ 31 * ((0 : Nat) : Int)); omega
  | t :: l, d, h => by
    have h1 := wd_b t d h.1
    have h2 := wds_b l d h.2
    show (-31 * ((cnt t + cnts l : Nat) : Int) ≤ wd t + wds l ∧ wd t + wds l ≤ 31 * ((cnt t + cnts l : Nat) : Int)); omega
end
theorem am_b {t : Th} {d : Nat} (up : Bool) (h : wf t d) : 0 ≤ am up t ∧ am up t ≤ 15 := by
  cases t with
  | space w a o b p =>
    obtain ⟨_, h1, _, h2, _⟩ := h
    cases up
    · exact h2
    · exact h1
  | _ => exact ⟨Int.le_refl _, by show (0 : Int) ≤ 15; decide⟩
theorem sum_b : ∀ l : List Int, (∀ x ∈ l, 0 ≤ x ∧ x ≤ 15) → 0 ≤ l.sum ∧ l.sum ≤ 15 * (l.length : Int)
  | [], _ => by simp
  | x :: l, h => by
    have h1 := h x List.mem_cons_self
    have h2 := sum_b l fun y hy => h y (List.mem_cons_of_mem _ hy)
    rw [List.sum_cons, List.length_cons]
    omega
def sps (l : List Th) : List Th := l.filter isSp
def amS (up : Bool) (l : List Th) : Int := ((sps l).map (am up)).sum
theorem amS_b {l : List Th} {d : Nat} (up : Bool) (h : wfs l d) (hc : cnts l ≤ 100) : 0 ≤ amS up l ∧ amS up l ≤ 1500 := by
  have h1 := sum_b ((sps l).map (am up)) fun x hx => by
    obtain ⟨t, ht, rfl⟩ := List.mem_map.mp hx
    exact am_b up ((wfs_iff d l).mp h t (List.mem_filter.mp ht).1)
  rw [List.length_map] at h1
  have h2 : (sps l).length ≤ l.length := List.length_filter_le _ _
  have h3 := len_cnts l
  unfold amS
  omega
def sft (up : Bool) (l : List Th) : Bool := (sps l).any (soft up)
theorem slackM_eq (up : Bool) (l : List Th) : slackM up l = if sft up l = true then none else some (amS up l) := rfl
theorem idx_sp {t : Th} (h : isSp t = true) : idx (enc t) (.int 2) = some (.int (am true t)) ∧ idx (enc t) (.int 3) = some (.int (od true t)) ∧ idx (enc t) (.int 4) = some (.int (am false t)) ∧ idx (enc t) (.int 5) = some (.int (od false t)) := by
  cases t with
  | space w a o b p => exact ⟨rfl, rfl, rfl, rfl⟩
  | _ => exact nomatch h
theorem lay_things {d : Nat} (hd : d ≤ 10) (S : List Th) (h : wfs S d) : PyData.canLayAll0 (S.map enc) = true ∧ PyData.depthAll (S.map enc) ≤ 60 := by
  rw [← encs_map]
  have := lay_l S d h
  exact ⟨this.1, by omega⟩
theorem ne_ths {d : Nat} (hd : d ≤ 10) (S : List Th) (h : wfs S d) : cop .ne (.list (S.map enc)) (.list []) = some (decide (S ≠ [])) := by
  have := lay_things hd S h
  rw [ne_lnil this.1 this.2]
  cases S <;> rfl
theorem filter_any (q : Th → Bool) (l : List Th) : decide (l.filter q ≠ []) = l.any q := by
  induction l with
  | nil => rfl
  | cons t l ih =>
    rw [List.filter_cons, List.any_cons]
    cases h : q t with
    | true => simp
    | false => simpa [h] using ih
theorem sp_eq (t : Th) : decide (kdS t = "space") = isSp t := by cases t <;> simp [kdS, isSp]
theorem pair36 {N d : Nat} (hN : 12 ≤ N) (hd : d ≤ 2) (l : List Th) (hw : wfs l d) (hc : cnts l ≤ 100) (m : Int) (hm : 0 ≤ m ∧ m ≤ 10) :
    callN P W N 32 [.val (.tuple (encs l)), .val (.int m)] = .ok false (optP (fitM l m)) [] := by
  obtain ⟨M, rfl⟩ : ∃ M, N = M + 1 := ⟨N - 1, by omega⟩
  have hlen := len_cnts l
  have e1 := law_wide d M (by omega) l hw hc
  have hS : ∀ t ∈ sps l, isSp t = true := fun t ht => (List.mem_filter.mp ht).2
  have hSl : (sps l).length ≤ SZ := by
    have : (sps l).length ≤ l.length := List.length_filter_le _ _
    show _ ≤ 16777216
    omega
  have c4 : (ev (callN P W M) f32_c4).1 [.val (.tuple (encs l)), .val (.int m), .un, .un, .un, .un, .un] = .ok (.f (.list ((sps l).map enc))) [.val (.tuple (encs l)), .val (.int m), .un, .un, .un, .un, .un] := by
    refine cm_fil (en := enc) (xs := l) isSp enc rfl (by simp! [itemsOf, encs_map]) (fun t ht => ?_) (fun t ht _ => ?_) (len_small hc)
    · simp! [idx_kd, sp_eq]
    · simp! []
  have c3 : ∀ s, (ev (callN P W M) f32_c3).1 [.val (.tuple (encs l)), .val (.int m), s, .val (.list ((sps l).map enc)), .un, .un, .un] = .ok (.f (.list ((sps l).map fun t => .int (am false t)))) [.val (.tuple (encs l)), .val (.int m), s, .val (.list ((sps l).map enc)), .un, .un, .un] := fun s => by
    refine cm_map (en := enc) (xs := sps l) (fun t => .int (am false t)) rfl (by simp! [itemsOf]) (fun t ht => ?_) hSl
    simp! [(idx_sp (hS t ht)).2.2.1]
  have c2 : ∀ s, (ev (callN P W M) f32_c2).1 [.val (.tuple (encs l)), .val (.int m), s, .val (.list ((sps l).map enc)), .un, .un, .un] = .ok (.f (.list ((sps l).map fun t => .int (am true t)))) [.val (.tuple (encs l)), .val (.int m), s, .val (.list ((sps l).map enc)), .un, .un, .un] := fun s => by
    refine cm_map (en := enc) (xs := sps l) (fun t => .int (am true t)) rfl (by simp! [itemsOf]) (fun t ht => ?_) hSl
    simp! [(idx_sp (hS t ht)).1]
  have c1 : ∀ s s4 s5, (ev (callN P W M) f32_c1).1 [.val (.tuple (encs l)), .val (.int m), s, .val (.list ((sps l).map enc)), s4, s5, .un] = .ok (.f (.list (((sps l).filter (soft false)).map enc))) [.val (.tuple (encs l)), .val (.int m), s, .val (.list ((sps l).map enc)), s4, s5, .un] := fun s s4 s5 => by
    refine cm_fil (en := enc) (xs := sps l) (soft false) enc rfl (by simp! [itemsOf]) (fun t ht => ?_) (fun t ht _ => ?_) hSl
    · simp! [(idx_sp (hS t ht)).2.2.1, (idx_sp (hS t ht)).2.2.2, and_ok, soft, hS t ht]
    · simp! []
  have c0 : ∀ s s4 s5, (ev (callN P W M) f32_c0).1 [.val (.tuple (encs l)), .val (.int m), s, .val (.list ((sps l).map enc)), s4, s5, .un] = .ok (.f (.list (((sps l).filter (soft true)).map enc))) [.val (.tuple (encs l)), .val (.int m), s, .val (.list ((sps l).map enc)), s4, s5, .un] := fun s s4 s5 => by
    refine cm_fil (en := enc) (xs := sps l) (soft true) enc rfl (by simp! [itemsOf]) (fun t ht => ?_) (fun t ht _ => ?_) hSl
    · simp! [(idx_sp (hS t ht)).1, (idx_sp (hS t ht)).2.1, and_ok, soft, hS t ht]
    · simp! []
  have s3 := sum_intsF (am false) (sps l)
  have s2 := sum_intsF (am true) (sps l)
  have wS : wfs (sps l) d := sub_wf List.filter_sublist hw
  have n1 : cop .ne (.list (((sps l).filter (soft false)).map enc)) (.list []) = some (sft false l) := by
    rw [ne_ths (by omega) _ (sub_wf List.filter_sublist wS), filter_any]; rfl
  have n0 : cop .ne (.list (((sps l).filter (soft true)).map enc)) (.list []) = some (sft true l) := by
    rw [ne_ths (by omega) _ (sub_wf List.filter_sublist wS), filter_any]; rfl
  have hmul : ∀ s, mulOk m s = true := fun s => mulOk_l (by omega) (by omega)
  have bw := wds_b l d hw
  have b2' := amS_b true hw hc
  have b3' := amS_b false hw hc
  have bm : 0 ≤ m * amS true l ∧ m * amS true l ≤ 15000 := by
    refine ⟨Int.mul_nonneg hm.1 b2'.1, ?_⟩
    have := Int.mul_le_mul hm.2 b2'.2 b2'.1 (by omega)
    omega
  rw [show ((sps l).map (am false)).sum = amS false l from rfl] at s3
  rw [show ((sps l).map (am true)).sum = amS true l from rfl] at s2
  have hpow : bop .pow (.int 10) (.int 9) = some (.d (.int 1000000000)) := by kernel_rfl
  unfold fitM loM hiM
  rw [slackM_eq, slackM_eq]
  rw [step (df := f32) rfl rfl]
  generalize amS true l = A2 at *
  generalize amS false l = A3 at *
  generalize hT2 : sft true l = T2 at *
  generalize hT3 : sft false l = T3 at *
  generalize wds l = w at *
  have hlo : ∀ x : Int, (∀ y : Int, y = (if 0 < x then x else 0) → True) := fun _ _ _ => trivial
  generalize hmA : m * A2 = mA at *
  cases T2 <;> cases T3
  · by_cases hn : w - A3 < 0
    · by_cases hle : (0 : Int) ≤ w + mA
      · have g1 : ¬ 0 < w - A3 := by omega
        have g2 : (w + mA < 1000000000) := by omega
        simp! [f32, e1, c4, c3, c2, c1, c0, s3, s2, n1, n0, hmul, hpow, hn, hle, optP, hmA, g1, g2]; try rfl
      · have g1 : ¬ 0 < w - A3 := by omega
        have g2 : (w + mA < 1000000000) := by omega
        simp! [f32, e1, c4, c3, c2, c1, c0, s3, s2, n1, n0, hmul, hpow, hn, hle, optP, hmA, g1, g2]; try rfl
    · have g2 : (w + mA < 1000000000) := by omega
      have g3 : (if 0 < w - A3 then w - A3 else 0) = w - A3 := by split <;> omega
      by_cases hle : w - A3 ≤ w + mA
      · simp! [f32, e1, c4, c3, c2, c1, c0, s3, s2, n1, n0, hmul, hpow, hn, hle, optP, hmA, g2, g3]; try rfl
      · simp! [f32, e1, c4, c3, c2, c1, c0, s3, s2, n1, n0, hmul, hpow, hn, hle, optP, hmA, g2, g3]; try rfl
  · have g2 : (w + mA < 1000000000) := by omega
    by_cases hn : w - A3 < 0
    · by_cases hle : (0 : Int) ≤ w + mA
      · simp! [f32, e1, c4, c3, c2, c1, c0, s3, s2, n1, n0, hmul, hpow, hn, hle, optP, hmA, g2]; try rfl
      · simp! [f32, e1, c4, c3, c2, c1, c0, s3, s2, n1, n0, hmul, hpow, hn, hle, optP, hmA, g2]; try rfl
    · by_cases hle : (0 : Int) ≤ w + mA
      · simp! [f32, e1, c4, c3, c2, c1, c0, s3, s2, n1, n0, hmul, hpow, hn, hle, optP, hmA, g2]; try rfl
      · simp! [f32, e1, c4, c3, c2, c1, c0, s3, s2, n1, n0, hmul, hpow, hn, hle, optP, hmA, g2]; try rfl
  · by_cases hn : w - A3 < 0
    · have g1 : ¬ 0 < w - A3 := by omega
      simp! [f32, e1, c4, c3, c2, c1, c0, s3, s2, n1, n0, hmul, hpow, hn, optP, hmA, g1]; try rfl
    · have g3 : (if 0 < w - A3 then w - A3 else 0) = w - A3 := by split <;> omega
      have hle : w - A3 ≤ 1000000000 := by omega
      simp! [f32, e1, c4, c3, c2, c1, c0, s3, s2, n1, n0, hmul, hpow, hn, hle, optP, hmA, g3]; try rfl
  · by_cases hn : w - A3 < 0
    · simp! [f32, e1, c4, c3, c2, c1, c0, s3, s2, n1, n0, hmul, hpow, hn, optP, hmA]; try rfl
    · simp! [f32, e1, c4, c3, c2, c1, c0, s3, s2, n1, n0, hmul, hpow, hn, optP, hmA]; try rfl
end K65

end
section
set_option maxRecDepth 100000
local macro_rules | `(tactic| simp! [$ts,*]) => `(tactic| simp only [Ev.bind_ok', Ev.bind_stuck', Ev.bind_ite, Ev.of_some', Ev.of_none', Ev.of_ite, Ev.slD_val, Ev.slD_own, Ev.slD_bor, Ev.deref_d, Ev.deref_f, Ev.deref_s, Ev.tru_eq, Ev.truS_some, Ev.truth_bool, Ev.truth_int, Ev.truth_list, Ev.truth_tuple, Ev.un1S_some, Ev.bi2S_some, Ev.andK_b, Ev.orK_b, Ev.negK_i, Ev.varK_val, Ev.varK_own, Ev.varK_bor, Ev.solS_val, Ev.solS_own, Ev.sol_d, Ev.sol_f, Ev.sol_s, Ev.muS_own, Ev.muS_bor, Ev.mutAt_eq, Ev.bop_add, Ev.bop_sub, Ev.bop_mul, Ev.bop_div, Ev.bop_mod, Ev.bop_tup, Ev.bop_lst, Ev.cop_lt, Ev.cop_le, Ev.cop_gt, Ev.cop_ge, Ev.cop_eqi, Ev.cop_eqs, Ev.cop_nei, Ev.cop_nes, Ev.cop_is, Ev.cop_isNot, Ev.cop_in, Ev.is_bb, Ev.e_none, Ev.e_bool, Ev.e_int, Ev.e_str, Ev.e_var, Ev.e_glob, Ev.e_bin, Ev.e_neg, Ev.e_cmp, Ev.chnS_some, Ev.e_chn, Ev.e_not, Ev.e_and, Ev.e_or, Ev.e_ife, Ev.e_tup, Ev.e_lst, Ev.e_idx, Ev.e_isi, Ev.e_bl1, Ev.e_bl2, Ev.callK_v, Ev.callK_f, Ev.callK_v1, Ev.callK_f1, Ev.callK_v2, Ev.argK_some, Ev.e_call, Ev.argsS_nil, Ev.argsS_v, Ev.argsS_l, Ev.lends_nil, Ev.lends_v, Ev.lends_l, Ev.a_nil, Ev.a_cons, Ev.r_nil, Ev.r_cons, Ev.lendK_some, Ev.r_lend, Ev.o_no, Ev.derK_some, Ev.o_yes, Ev.t_no, Ev.t_yes, Ev.i_val, Ev.slS_some, Ev.e_slc, Ev.opt_none, Ev.opt_int, Ev.slice_list, Ev.slice_tup, Ev.e_dsp, Ev.dicS_some, Ev.e_mg2, Ev.rgK_i, Ev.i_rg1, Ev.rgK2_i, Ev.i_rg2, Ev.enK_some, Ev.i_enm, Ev.zpK_some, Ev.i_zip, Ev.c_cst, Ev.c_var, Ev.c_cmp, Ev.c_chn, Ev.c_isi, Ev.c_call, Ev.c_bl1, Ev.c_not, Ev.c_and, Ev.c_or, Ev.c_ife, Ev.seqK_nx, Ev.seqK_brk, Ev.seqK_cnt, Ev.seqK_ret, Ev.seqK_exc, Ev.seqK_stuck, Ev.seqK_ite, Ev.b_nil, Ev.b_cons, Ev.retK_d, Ev.retK_f, Ev.s_ret, Ev.s_retN, Ev.s_asg, Ev.s_ex, Ev.s_if, Ev.s_for, Ev.s_whl, Ev.s_pas, Ev.s_rse, Ev.stoK_un, Ev.stoK_val, Ev.stoK_own, Ev.asn_d, Ev.asn_f, Ev.asn_fo, Ev.asn_t, Ev.asnL_nil, Ev.asnL_cons, Ev.asnP_nil, Ev.asnP_cons, Ev.s_asp, Ev.fK_f, Ev.fK_d, Ev.fK_s, Ev.f_nil, Ev.f_cons, Ev.lendF_some, Ev.setS_own, Ev.setS_bor, Ev.setAt_eq, Ev.ixK_some, Ev.setK_l, Ev.s_sto, Ev.outs_nil, Ev.outs_v, Ev.outs_b, Ev.endK_nx, Ev.endK_ret, Ev.endK_exc, Ev.endK_stuck, Ev.endK_ite, Ev.endS_some, Ev.endCall_eq, Ev.e_emp, Ev.e_din, Ev.e_dix, Ev.sdkS_some, Ev.e_sdk, Ev.e_tin, Ev.e_tix, Ev.e_tg1, Ev.e_tg2, Ev.e_sdt, Ev.c_din, Ev.c_tin, Ev.s_dst, Ev.s_tst, Ev.isN_none, Ev.isN_bool, Ev.isN_int, Ev.isN_str, Ev.isN_list, Ev.isN_tup, Ev.isN_dict, Ev.e_mg1, Ev.appL_l, Ev.appK_l, Ev.s_app, Ev.nd_none, Ev.ty_int_none, Ev.ty_bool_none, Ev.ty_str_none, Ev.ty_tuple_none, Ev.ty_list_none, Ev.nd_bool, Ev.ty_int_bool, Ev.ty_bool_bool, Ev.ty_str_bool, Ev.ty_tuple_bool, Ev.ty_list_bool, Ev.nd_int, Ev.ty_int_int, Ev.ty_bool_int, Ev.ty_str_int, Ev.ty_tuple_int, Ev.ty_list_int, Ev.nd_str, Ev.ty_int_str, Ev.ty_bool_str, Ev.ty_str_str, Ev.ty_tuple_str, Ev.ty_list_str, Ev.nd_list, Ev.ty_int_list, Ev.ty_bool_list, Ev.ty_str_list, Ev.ty_tuple_list, Ev.ty_list_list, Ev.nd_tup, Ev.ty_int_tup, Ev.ty_bool_tup, Ev.ty_str_tup, Ev.ty_tuple_tup, Ev.ty_list_tup, Ev.nd_dict, Ev.ty_int_dict, Ev.ty_bool_dict, Ev.ty_str_dict, Ev.ty_tuple_dict, Ev.ty_list_dict, List.getElem?_cons_zero, List.getElem?_cons_succ, List.getElem?_nil, List.set_cons_zero, List.set_cons_succ, List.length_cons, List.length_nil, List.replicate_succ, List.replicate_zero, List.cons_append, List.nil_append, List.append_nil, List.nodup_nil, List.nodup_cons, List.mem_cons, List.not_mem_nil, List.isEmpty_nil, List.isEmpty_cons, Option.map_some, Option.map_none, Option.bind_some, Option.bind_none, Option.getD_some, Option.getD_none, Option.isSome_some, Option.isSome_none, Option.isNone_some, Option.isNone_none, ite_true, ite_false, if_true, if_false, decide_true, decide_false, decide_eq_true_eq, Bool.not_true, Bool.not_false, Bool.not_not, Bool.true_and, Bool.false_and, Bool.and_true, Bool.and_false, Bool.or_true, Bool.or_false, Bool.true_or, Bool.false_or, Bool.not_eq_true, Bool.not_eq_true', Bool.and_self, Bool.or_self, Bool.false_eq_true, reduceCtorEq, not_true_eq_false, not_false_eq_true, or_false, false_or, or_true, true_or, and_true, true_and, and_false, false_and, eq_self, bne_self_eq_false, Nat.reduceAdd, Nat.reduceSub, Nat.reduceLeDiff, Nat.reduceLT, Nat.reduceEqDiff, Nat.zero_add, Nat.reduceMul, Int.reduceNeg, Int.reduceAdd, Int.reduceSub, Int.reduceMul, Int.reduceLT, Int.reduceLE, Int.reduceEq, Int.reduceDiv, Int.reduceMod, Int.reduceToNat, Int.reducePow, Nat.succ_ne_zero, Nat.add_eq_zero_iff, Nat.le_refl, Nat.one_ne_zero, ↓reduceIte, Ev.SZ, $ts,*])
set_option linter.all false
set_option maxRecDepth 100000
set_option maxHeartbeats 4000000
/-! All lines that fit any width, as a dict. -/
namespace K65
open PySem Ev
theorem small' {j : Int} (h : -1000 ≤ j) (h2 : j < 1000000) : small62 j = true := by
  unfold small62 P62
  simp
  omega
def keysL : List (Int × Int) := ([-1, 0, 1, 2, 3, 4, 5] : List Int).flatMap fun i => ([0, 1, 2, 3, 4, 5] : List Int).map fun j => (i, j)
theorem hinj : ∀ a ∈ keysL, ∀ b ∈ keysL, hsh a = hsh b → a = b := by decide +kernel
theorem mem_keysL {i j : Int} (h : -1 ≤ i ∧ i ≤ 5 ∧ 0 ≤ j ∧ j ≤ 5) : (i, j) ∈ keysL := by
  unfold keysL
  rw [List.mem_flatMap]
  refine ⟨i, ?_, List.mem_map.mpr ⟨j, ?_, rfl⟩⟩
  · simp only [List.mem_cons, List.not_mem_nil, or_false]; omega
  · simp only [List.mem_cons, List.not_mem_nil, or_false]; omega
abbrev Pr := (Int × Int) × (Int × Int)
def encQ (q : Int × Int) : D := .tuple [.int q.1, .int q.2]
abbrev pD (ps : List Pr) : D := dicD encQ ps
theorem optP_Q (o : Option (Int × Int)) : optP o = (o.map encQ).getD .none := by cases o <;> rfl
section
variable (fit : Int → Int → Option (Int × Int))
def rowP (i : Int) (js : List Int) : List Pr := js.filterMap fun j => (fit i j).map fun q => ((i, j), q)
def rowsP (many : Nat) (is : List Int) : List Pr := is.flatMap fun i => rowP fit i (inR (i + 1) ((many : Int) - (i + 1)).toNat)
def allP (many : Nat) : List Pr := rowsP fit many (inR (-1) (many + 1))
theorem mem_rowP {i : Int} {js : List Int} {p : Pr} : p ∈ rowP fit i js ↔ p.1.1 = i ∧ p.1.2 ∈ js ∧ fit i p.1.2 = some p.2 := by
  unfold rowP
  rw [List.mem_filterMap]
  constructor
  · rintro ⟨j, hj, e⟩
    cases hf : fit i j with
    | none => rw [hf] at e; exact nomatch e
    | some q =>
      rw [hf] at e
      cases (Option.some.inj e : ((i, j), q) = p)
      exact ⟨rfl, hj, hf⟩
  · rintro ⟨h1, h2, h3⟩
    exact ⟨p.1.2, h2, by rw [h3, ← h1]; rfl⟩
theorem rowP_nodup (i : Int) : ∀ js : List Int, js.Nodup → ((rowP fit i js).map (·.1)).Nodup
  | [], _ => List.nodup_nil
  | j :: js, h => by
    have hn := List.nodup_cons.mp h
    have ih := rowP_nodup i js hn.2
    unfold rowP at ih ⊢
    rw [List.filterMap_cons]
    cases hf : fit i j with
    | none => exact ih
    | some q =>
      show ((i, j) :: _).Nodup
      rw [List.nodup_cons]
      refine ⟨fun hm => ?_, ih⟩
      obtain ⟨p, hp, e⟩ := List.mem_map.mp hm
      have := ((mem_rowP fit).mp (show p ∈ rowP fit i js from hp)).2.1
      rw [e] at this
      exact hn.1 this
theorem mem_rowsP {many : Nat} {is : List Int} {p : Pr} : p ∈ rowsP fit many is ↔ p.1.1 ∈ is ∧ p.1.1 < p.1.2 ∧ p.1.2 < many ∧ fit p.1.1 p.1.2 = some p.2 := by
  unfold rowsP
  rw [List.mem_flatMap]
  constructor
  · rintro ⟨i, hi, hp⟩
    obtain ⟨h1, h2, h3⟩ := (mem_rowP fit).mp hp
    have := mem_inR.mp h2
    refine ⟨h1 ▸ hi, by omega, by omega, by rw [h1]; exact h3⟩
  · rintro ⟨h1, h2, h3, h4⟩
    exact ⟨p.1.1, h1, (mem_rowP fit).mpr ⟨rfl, mem_inR.mpr (by omega), h4⟩⟩
theorem rowsP_nodup (many : Nat) : ∀ is : List Int, is.Nodup → ((rowsP fit many is).map (·.1)).Nodup
  | [], _ => List.nodup_nil
  | i :: is, h => by
    have hn := List.nodup_cons.mp h
    have ih := rowsP_nodup many is hn.2
    show ((rowP fit i _ ++ rowsP fit many is).map (·.1)).Nodup
    rw [List.map_append, List.nodup_append]
    refine ⟨rowP_nodup fit i _ (inR_nodup _ _), ih, fun a ha b hb e => ?_⟩
    obtain ⟨p, hp, rfl⟩ := List.mem_map.mp ha
    obtain ⟨q, hq, rfl⟩ := List.mem_map.mp hb
    have h1 := ((mem_rowP fit).mp hp).1
    have h2 := ((mem_rowsP fit).mp hq).1
    rw [← show p.1 = q.1 from e, h1] at h2
    exact hn.1 h2
theorem look_all {many : Nat} {i j : Int} (hi : -1 ≤ i) (hij : i < j) (hj : j < many) : lookP (allP fit many) i j = fit i j := by
  have h := fun q => lookP_iff (rowsP_nodup fit many _ (inR_nodup (-1) (many + 1))) i j q
  have h' : ∀ q, lookP (allP fit many) i j = some q ↔ fit i j = some q := fun q => by
    rw [show lookP (allP fit many) i j = lookP (rowsP fit many (inR (-1) (many + 1))) i j from rfl, h q, mem_rowsP]
    constructor
    · exact fun z => z.2.2.2
    · exact fun z => ⟨mem_inR.mpr (show -1 ≤ i ∧ i < -1 + ((many + 1 : Nat) : Int) by omega), hij, hj, z⟩
  cases hf : fit i j with
  | some q => exact (h' q).mpr hf
  | none =>
    cases hl : lookP (allP fit many) i j with
    | none => rfl
    | some q => rw [(h' q).mp hl] at hf; exact nomatch hf
def Good (ps : List Pr) : Prop := (ps.map (·.1)).Nodup ∧ (∀ p ∈ ps, p.1 ∈ keysL) ∧ ps.length ≤ 42
theorem nodup_len {α : Type} [BEq α] [LawfulBEq α] : ∀ (a b : List α), a.Nodup → (∀ x ∈ a, x ∈ b) → a.length ≤ b.length
  | [], b, _, _ => Nat.zero_le _
  | x :: a, b, h, hs => by
    have hn := List.nodup_cons.mp h
    have hx := hs x List.mem_cons_self
    have ih := nodup_len a (b.erase x) hn.2 fun y hy => (List.mem_erase_of_ne (fun e : y = x => hn.1 (e ▸ hy))).mpr (hs y (List.mem_cons_of_mem _ hy))
    rw [List.length_erase_of_mem hx] at ih
    have := List.length_pos_of_mem hx
    rw [List.length_cons]
    omega
theorem good_of {ps : List Pr} (h1 : (ps.map (·.1)).Nodup) (h2 : ∀ p ∈ ps, p.1 ∈ keysL) : Good ps := by
  refine ⟨h1, h2, ?_⟩
  have := nodup_len (ps.map (·.1)) keysL h1 fun x hx => by
    obtain ⟨p, hp, rfl⟩ := List.mem_map.mp hx
    exact h2 p hp
  rw [List.length_map] at this
  exact this
theorem good_sub {ps qs : List Pr} (h : ps.Sublist qs) (hq : Good qs) : Good ps := good_of ((h.map _).nodup hq.1) fun p hp => hq.2.1 p (h.subset hp)
theorem all_good {many : Nat} (hm : many ≤ 6) : Good (allP fit many) := good_of (rowsP_nodup fit many _ (inR_nodup _ _)) fun p hp => by
  obtain ⟨⟨i, j⟩, q⟩ := p
  obtain ⟨h1, h2, h3, _⟩ := (mem_rowsP fit).mp hp
  have h1' : i ∈ inR (-1) (many + 1) := h1
  have h2' : i < j := h2
  have h3' : j < many := h3
  have := mem_inR.mp h1'
  exact mem_keysL (i := i) (j := j) (by omega)
/-- the program's loops -/
theorem in20 {N : Nat} {v : D} {m : Int} {many : Nat} {i : Int} (hcall : ∀ j : Int, i < j → j < many → callN P W N 16 [.val v, .val (.int m), .val (.int i), .val (.int j)] = .ok false (optP (fit i j)) []) :
    ∀ (js : List Int) (ps : List Pr) (s5 s6 : Sl), Free s5 → Free s6 → (∀ j ∈ js, i < j ∧ j < many) → Good (ps ++ rowP fit i js) →
    ∃ t5 t6, Free t5 ∧ Free t6 ∧ forL (fun x r2 => (asn (.n 5 false) (.d x) r2).bind fun _ r3 => evB (callN P W N) W f17_b0 r3) (js.map PyData.int) [.val v, .val (.int m), .val (.int many), .val (pD ps), .val (.int i), s5, s6] = .ok .nx [.val v, .val (.int m), .val (.int many), .val (pD (ps ++ rowP fit i js)), .val (.int i), t5, t6]
  | [], ps, s5, s6, h5, h6, hj, hg => ⟨s5, s6, h5, h6, by show Res.ok Fl.nx _ = _; rw [show rowP fit i [] = [] from rfl, List.append_nil]⟩
  | j :: js, ps, s5, s6, h5, h6, hj, hg => by
    have hj0 := hj j List.mem_cons_self
    have e1 := hcall j hj0.1 hj0.2
    cases hf : fit i j with
    | none =>
      have er : rowP fit i (j :: js) = rowP fit i js := by unfold rowP; rw [List.filterMap_cons, hf]; rfl
      rw [hf] at e1
      rw [er] at hg ⊢
      obtain ⟨t5, t6, g5, g6, e⟩ := in20 hcall js ps (.val (.int j)) (.val .none) (.inr ⟨_, rfl⟩) (.inr ⟨_, rfl⟩) (fun x hx => hj x (List.mem_cons_of_mem _ hx)) hg
      refine ⟨t5, t6, g5, g6, ?_⟩
      rw [List.map_cons, for_nx (r' := [.val v, .val (.int m), .val (.int many), .val (pD ps), .val (.int i), .val (.int j), .val .none]), e]
      simp! [f17_b0, sto_free h5, sto_free h6, e1, optP]
    | some q =>
      have er : rowP fit i (j :: js) = ((i, j), q) :: rowP fit i js := by unfold rowP; rw [List.filterMap_cons, hf]; rfl
      rw [hf] at e1
      rw [er] at hg ⊢
      rw [show ps ++ ((i, j), q) :: rowP fit i js = (ps ++ [((i, j), q)]) ++ rowP fit i js by simp] at hg ⊢
      have hgp : Good (ps ++ [((i, j), q)]) := good_sub (List.sublist_append_left _ _) hg
      have hgq : Good ps := good_sub (List.sublist_append_left _ _) hgp
      have hnew : (i, j) ∉ ps.map (·.1) := by
        have := hgp.1
        rw [List.map_append, List.nodup_append] at this
        exact fun hm => this.2.2 _ hm (i, j) List.mem_cons_self rfl
      have em := mrgT_K encQ hinj hgq.1 hgq.2.1 hnew q (by have := hgq.2.2; show _ < 16777216; omega)
      obtain ⟨t5, t6, g5, g6, e⟩ := in20 hcall js (ps ++ [((i, j), q)]) (.val (.int j)) (.val (encQ q)) (.inr ⟨_, rfl⟩) (.inr ⟨_, rfl⟩) (fun x hx => hj x (List.mem_cons_of_mem _ hx)) hg
      refine ⟨t5, t6, g5, g6, ?_⟩
      rw [List.map_cons, for_nx (r' := [.val v, .val (.int m), .val (.int many), .val (pD (ps ++ [((i, j), q)])), .val (.int i), .val (.int j), .val (encQ q)]), e]
      have e1' : callN P W N 16 [.val v, .val (.int m), .val (.int i), .val (.int j)] = .ok false (encQ q) [] := e1
      have en : isOf (encQ q) .none = some false := rfl
      have ed : pD ps = dicD encQ ps := rfl
      simp only [pD]
      generalize dicD encQ ps = A at *
      generalize dicD encQ (ps ++ [((i, j), q)]) = B at *
      generalize encQ q = C at *
      simp only [f17_b0, b_cons, s_asg, s_if, b_nil]
      simp! [sto_free h5, sto_free h6, e1', em, en]
theorem out20 {N : Nat} {v : D} {m : Int} {many : Nat} (hm : many ≤ 6) (hcall : ∀ i j : Int, -1 ≤ i → i < j → j < many → callN P W N 16 [.val v, .val (.int m), .val (.int i), .val (.int j)] = .ok false (optP (fit i j)) []) :
    ∀ (is : List Int) (ps : List Pr) (s4 s5 s6 : Sl), Free s4 → Free s5 → Free s6 → (∀ i ∈ is, -1 ≤ i ∧ i < many) → Good (ps ++ rowsP fit many is) →
    ∃ t4 t5 t6, forL (fun x r2 => (asn (.n 4 false) (.d x) r2).bind fun _ r3 => evB (callN P W N) W f17_b1 r3) (is.map PyData.int) [.val v, .val (.int m), .val (.int many), .val (pD ps), s4, s5, s6] = .ok .nx [.val v, .val (.int m), .val (.int many), .val (pD (ps ++ rowsP fit many is)), t4, t5, t6]
  | [], ps, s4, s5, s6, h4, h5, h6, hi, hg => ⟨s4, s5, s6, by show Res.ok Fl.nx _ = _; rw [show rowsP fit many [] = [] from rfl, List.append_nil]⟩
  | i :: is, ps, s4, s5, s6, h4, h5, h6, hi, hg => by
    have hi0 := hi i List.mem_cons_self
    have er : rowsP fit many (i :: is) = rowP fit i (inR (i + 1) ((many : Int) - (i + 1)).toNat) ++ rowsP fit many is := rfl
    rw [er, ← List.append_assoc] at hg ⊢
    obtain ⟨t5, t6, g5, g6, e⟩ := in20 fit (fun j h1 h2 => hcall i j hi0.1 h1 h2) (inR (i + 1) ((many : Int) - (i + 1)).toNat) ps s5 s6 h5 h6 (fun j hj => by have := mem_inR.mp hj; omega) (good_sub (List.sublist_append_left _ _) hg)
    obtain ⟨u4, u5, u6, e2⟩ := out20 hm hcall is (ps ++ rowP fit i (inR (i + 1) ((many : Int) - (i + 1)).toNat)) (.val (.int i)) t5 t6 (.inr ⟨_, rfl⟩) g5 g6 (fun x hx => hi x (List.mem_cons_of_mem _ hx)) hg
    refine ⟨u4, u5, u6, ?_⟩
    rw [List.map_cons, for_nx (r' := [.val v, .val (.int m), .val (.int many), .val (pD (ps ++ rowP fit i (inR (i + 1) ((many : Int) - (i + 1)).toNat))), .val (.int i), t5, t6]), e2]
    have sm1 : small62 (i + 1) = true := small' (by omega) (by omega)
    have sm2 : small62 (many : Int) = true := small (by omega) (by omega)
    have el : evS (callN P W N) W f17_l0 [.val v, .val (.int m), .val (.int many), .val (pD ps), .val (.int i), s5, s6] = .ok .nx [.val v, .val (.int m), .val (.int many), .val (pD (ps ++ rowP fit i (inR (i + 1) ((many : Int) - (i + 1)).toNat))), .val (.int i), t5, t6] := by
      have ei : evI (callN P W N) (.rg2 (.bin .add (.var 4) (.cst (.int 1))) (.var 2)) [.val v, .val (.int m), .val (.int many), .val (pD ps), .val (.int i), s5, s6] = .ok ((inR (i + 1) ((many : Int) - (i + 1)).toNat).map PyData.int) [.val v, .val (.int m), .val (.int many), .val (pD ps), .val (.int i), s5, s6] := by simp! [sm1, sm2, rng_inR]
      rw [show f17_l0 = IS.fr (.n 5 false) (.rg2 (.bin .add (.var 4) (.cst (.int 1))) (.var 2)) f17_b0 from rfl, s_for, ei, bind_ok']
      exact e
    simp! [f17_b1, sto_free h4, el]
end
end K65

end
section
set_option maxRecDepth 100000
local macro_rules | `(tactic| simp! [$ts,*]) => `(tactic| simp only [Ev.bind_ok', Ev.bind_stuck', Ev.bind_ite, Ev.of_some', Ev.of_none', Ev.of_ite, Ev.slD_val, Ev.slD_own, Ev.slD_bor, Ev.deref_d, Ev.deref_f, Ev.deref_s, Ev.tru_eq, Ev.truS_some, Ev.truth_bool, Ev.truth_int, Ev.truth_list, Ev.truth_tuple, Ev.un1S_some, Ev.bi2S_some, Ev.andK_b, Ev.orK_b, Ev.negK_i, Ev.varK_val, Ev.varK_own, Ev.varK_bor, Ev.solS_val, Ev.solS_own, Ev.sol_d, Ev.sol_f, Ev.sol_s, Ev.muS_own, Ev.muS_bor, Ev.mutAt_eq, Ev.bop_add, Ev.bop_sub, Ev.bop_mul, Ev.bop_div, Ev.bop_mod, Ev.bop_tup, Ev.bop_lst, Ev.cop_lt, Ev.cop_le, Ev.cop_gt, Ev.cop_ge, Ev.cop_eqi, Ev.cop_eqs, Ev.cop_nei, Ev.cop_nes, Ev.cop_is, Ev.cop_isNot, Ev.cop_in, Ev.is_bb, Ev.e_none, Ev.e_bool, Ev.e_int, Ev.e_str, Ev.e_var, Ev.e_glob, Ev.e_bin, Ev.e_neg, Ev.e_cmp, Ev.chnS_some, Ev.e_chn, Ev.e_not, Ev.e_and, Ev.e_or, Ev.e_ife, Ev.e_tup, Ev.e_lst, Ev.e_idx, Ev.e_isi, Ev.e_bl1, Ev.e_bl2, Ev.callK_v, Ev.callK_f, Ev.callK_v1, Ev.callK_f1, Ev.callK_v2, Ev.argK_some, Ev.e_call, Ev.argsS_nil, Ev.argsS_v, Ev.argsS_l, Ev.lends_nil, Ev.lends_v, Ev.lends_l, Ev.a_nil, Ev.a_cons, Ev.r_nil, Ev.r_cons, Ev.lendK_some, Ev.r_lend, Ev.o_no, Ev.derK_some, Ev.o_yes, Ev.t_no, Ev.t_yes, Ev.i_val, Ev.slS_some, Ev.e_slc, Ev.opt_none, Ev.opt_int, Ev.slice_list, Ev.slice_tup, Ev.e_dsp, Ev.dicS_some, Ev.e_mg2, Ev.rgK_i, Ev.i_rg1, Ev.rgK2_i, Ev.i_rg2, Ev.enK_some, Ev.i_enm, Ev.zpK_some, Ev.i_zip, Ev.c_cst, Ev.c_var, Ev.c_cmp, Ev.c_chn, Ev.c_isi, Ev.c_call, Ev.c_bl1, Ev.c_not, Ev.c_and, Ev.c_or, Ev.c_ife, Ev.seqK_nx, Ev.seqK_brk, Ev.seqK_cnt, Ev.seqK_ret, Ev.seqK_exc, Ev.seqK_stuck, Ev.seqK_ite, Ev.b_nil, Ev.b_cons, Ev.retK_d, Ev.retK_f, Ev.s_ret, Ev.s_retN, Ev.s_asg, Ev.s_ex, Ev.s_if, Ev.s_for, Ev.s_whl, Ev.s_pas, Ev.s_rse, Ev.stoK_un, Ev.stoK_val, Ev.stoK_own, Ev.asn_d, Ev.asn_f, Ev.asn_fo, Ev.asn_t, Ev.asnL_nil, Ev.asnL_cons, Ev.asnP_nil, Ev.asnP_cons, Ev.s_asp, Ev.fK_f, Ev.fK_d, Ev.fK_s, Ev.f_nil, Ev.f_cons, Ev.lendF_some, Ev.setS_own, Ev.setS_bor, Ev.setAt_eq, Ev.ixK_some, Ev.setK_l, Ev.s_sto, Ev.outs_nil, Ev.outs_v, Ev.outs_b, Ev.endK_nx, Ev.endK_ret, Ev.endK_exc, Ev.endK_stuck, Ev.endK_ite, Ev.endS_some, Ev.endCall_eq, Ev.e_emp, Ev.e_din, Ev.e_dix, Ev.sdkS_some, Ev.e_sdk, Ev.e_tin, Ev.e_tix, Ev.e_tg1, Ev.e_tg2, Ev.e_sdt, Ev.c_din, Ev.c_tin, Ev.s_dst, Ev.s_tst, Ev.isN_none, Ev.isN_bool, Ev.isN_int, Ev.isN_str, Ev.isN_list, Ev.isN_tup, Ev.isN_dict, Ev.e_mg1, Ev.appL_l, Ev.appK_l, Ev.s_app, Ev.nd_none, Ev.ty_int_none, Ev.ty_bool_none, Ev.ty_str_none, Ev.ty_tuple_none, Ev.ty_list_none, Ev.nd_bool, Ev.ty_int_bool, Ev.ty_bool_bool, Ev.ty_str_bool, Ev.ty_tuple_bool, Ev.ty_list_bool, Ev.nd_int, Ev.ty_int_int, Ev.ty_bool_int, Ev.ty_str_int, Ev.ty_tuple_int, Ev.ty_list_int, Ev.nd_str, Ev.ty_int_str, Ev.ty_bool_str, Ev.ty_str_str, Ev.ty_tuple_str, Ev.ty_list_str, Ev.nd_list, Ev.ty_int_list, Ev.ty_bool_list, Ev.ty_str_list, Ev.ty_tuple_list, Ev.ty_list_list, Ev.nd_tup, Ev.ty_int_tup, Ev.ty_bool_tup, Ev.ty_str_tup, Ev.ty_tuple_tup, Ev.ty_list_tup, Ev.nd_dict, Ev.ty_int_dict, Ev.ty_bool_dict, Ev.ty_str_dict, Ev.ty_tuple_dict, Ev.ty_list_dict, List.getElem?_cons_zero, List.getElem?_cons_succ, List.getElem?_nil, List.set_cons_zero, List.set_cons_succ, List.length_cons, List.length_nil, List.replicate_succ, List.replicate_zero, List.cons_append, List.nil_append, List.append_nil, List.nodup_nil, List.nodup_cons, List.mem_cons, List.not_mem_nil, List.isEmpty_nil, List.isEmpty_cons, Option.map_some, Option.map_none, Option.bind_some, Option.bind_none, Option.getD_some, Option.getD_none, Option.isSome_some, Option.isSome_none, Option.isNone_some, Option.isNone_none, ite_true, ite_false, if_true, if_false, decide_true, decide_false, decide_eq_true_eq, Bool.not_true, Bool.not_false, Bool.not_not, Bool.true_and, Bool.false_and, Bool.and_true, Bool.and_false, Bool.or_true, Bool.or_false, Bool.true_or, Bool.false_or, Bool.not_eq_true, Bool.not_eq_true', Bool.and_self, Bool.or_self, Bool.false_eq_true, reduceCtorEq, not_true_eq_false, not_false_eq_true, or_false, false_or, or_true, true_or, and_true, true_and, and_false, false_and, eq_self, bne_self_eq_false, Nat.reduceAdd, Nat.reduceSub, Nat.reduceLeDiff, Nat.reduceLT, Nat.reduceEqDiff, Nat.zero_add, Nat.reduceMul, Int.reduceNeg, Int.reduceAdd, Int.reduceSub, Int.reduceMul, Int.reduceLT, Int.reduceLE, Int.reduceEq, Int.reduceDiv, Int.reduceMod, Int.reduceToNat, Int.reducePow, Nat.succ_ne_zero, Nat.add_eq_zero_iff, Nat.le_refl, Nat.one_ne_zero, ↓reduceIte, Ev.SZ, $ts,*])
set_option linter.all false
set_option maxRecDepth 100000
set_option maxHeartbeats 4000000
/-! Lines taken one by one. -/
namespace K65
open PySem Ev
theorem chn_leT (a b : Int) (r : Ev.Env) (k : Ev.Env → Res TV) : chnS .le (some (.int a)) (some (.int b)) r k = if a ≤ b then k r else .ok (.d (.bool false)) r := by
  rw [chnS_some (b := decide (a ≤ b)) (h := cop_le a b)]
  by_cases h : a ≤ b <;> simp [h]
def inQ (w : Int) : Option (Int × Int) → Bool
  | none => false
  | some q => decide (q.1 ≤ w) && decide (w ≤ q.2)
theorem idxp0 (a b : Int) : idx (.tuple [.int a, .int b]) (.int 0) = some (.int a) := rfl
theorem idxp1 (a b : Int) : idx (.tuple [.int a, .int b]) (.int 1) = some (.int b) := rfl
theorem isD (ps : List Pr) : isDict (pD ps) = true := by cases ps <;> rfl
theorem fit21 {N : Nat} (hN : 1 ≤ N) (ps : List Pr) (i j w : Int) : callN P W N 18 [.val (pD ps), .val (.int i), .val (.int j), .val (.int w)] = .ok false (.bool (inQ w (lookP ps i j))) [] := by
  obtain ⟨M, rfl⟩ : ∃ M, N = M + 1 := ⟨N - 1, by omega⟩
  have eg := getT_K encQ ps i j
  have ed := isD ps
  rw [step (df := f18) rfl rfl]
  simp only [pD] at ed ⊢
  generalize dicD encQ ps = A at *
  cases hl : lookP ps i j with
  | none =>
    rw [hl] at eg
    have eg' : getT A [.int i, .int j] = some none := eg
    simp! [f18, eg', ed, idxp0, idxp1, chn_leT, and_okv, inQ]
    have : (decide ((0 : Int) ≤ w) && decide (w ≤ -1)) = false := by
      rw [Bool.and_eq_false_iff]
      by_cases h : 0 ≤ w
      · right; simp; omega
      · left; simpa using h
    rw [this]
  | some q =>
    rw [hl] at eg
    have eg' : getT A [.int i, .int j] = some (some (.tuple [.int q.1, .int q.2])) := eg
    simp! [f18, eg', ed, idxp0, idxp1, chn_leT, and_okv, inQ]
theorem has38 {N : Nat} (hN : 1 ≤ N) (ps : List Pr) (i j w : Int) : callN P W N 34 [.val (pD ps), .val (.int i), .val (.int j), .val (.int w)] = .ok false (.bool (inQ w (lookP ps i j))) [] := by
  obtain ⟨M, rfl⟩ : ∃ M, N = M + 1 := ⟨N - 1, by omega⟩
  have eg := getT_K encQ ps i j
  have ed := isD ps
  rw [step (df := f34) rfl rfl]
  simp only [pD] at ed ⊢
  generalize dicD encQ ps = A at *
  cases hl : lookP ps i j with
  | none =>
    rw [hl] at eg
    have eg' : getT A [.int i, .int j] = some none := eg
    simp! [f34, eg', ed, idxp0, idxp1, chn_leT, and_okv, inQ]
  | some q =>
    rw [hl] at eg
    have eg' : getT A [.int i, .int j] = some (some (.tuple [.int q.1, .int q.2])) := eg
    simp! [f34, eg', ed, idxp0, idxp1, chn_leT, and_okv, inQ]
section
variable (q : Int → Int → Bool) (many : Nat)
def latM (here : Int) : List Int := (inR (here + 1) ((many : Int) - (here + 1)).toNat).filter (q here)
def takM : Nat → Int → List Int → Option (List Int)
  | 0, _, _ => none
  | n + 1, here, found => match (latM q many here).getLast? with
    | none => none
    | some x => if x = (many : Int) - 1 then some (found ++ [x]) else takM n x (found ++ [x])
def optL : Option (List Int) → D
  | none => .none
  | some l => .tuple (l.map PyData.int)
theorem lat_mem {here x : Int} (h : x ∈ latM q many here) : here < x ∧ x < many ∧ q here x = true := by
  obtain ⟨h1, h2⟩ := List.mem_filter.mp h
  have := mem_inR.mp h1
  exact ⟨by omega, by omega, h2⟩
theorem lat_len (here : Int) (h : -1 ≤ here) : (latM q many here).length ≤ many := by
  have := List.length_filter_le (q here) (inR (here + 1) ((many : Int) - (here + 1)).toNat)
  rw [inR_len] at this
  show (List.filter _ _).length ≤ _
  omega
theorem idx_lastD (l : List D) (x : D) : idx (.list (l ++ [x])) (.int (-1)) = some x := by
  have h : ¬ (0 : Int) ≤ -1 := by decide
  have h2 : -((l.length : Int) + 1) ≤ -1 := by omega
  have h3 : ((-1 : Int) + ((l.length : Int) + 1)).toNat = l.length := by omega
  simp [idx, atI, Ev.ixN, h2, h3]
theorem lat_case (here : Int) : (latM q many here = [] ∧ (latM q many here).getLast? = none) ∨ ∃ t x, latM q many here = t ++ [x] ∧ (latM q many here).getLast? = some x ∧ x ∈ latM q many here ∧ idx (.list ((latM q many here).map PyData.int)) (.int (-1)) = some (.int x) := by
  rcases List.eq_nil_or_concat (latM q many here) with h | ⟨t, x, h⟩
  · left; exact ⟨h, by rw [h]; rfl⟩
  · right
    rw [List.concat_eq_append] at h
    refine ⟨t, x, h, by rw [h]; simp, by rw [h]; simp, ?_⟩
    rw [h, List.map_append]
    exact idx_lastD _ _
variable {N : Nat} {F : D} {w : Int}
theorem comp22 (hq : ∀ i j : Int, -1 ≤ i → i < j → j < many → callN P W N 18 [.val F, .val (.int i), .val (.int j), .val (.int w)] = .ok false (.bool (q i j)) []) (hm : many ≤ 100) (here : Int) (h1 : -1 ≤ here) (h2 : here < many) (s3 s5 : Sl) :
    (ev (callN P W N) f19_c0).1 [.val F, .val (.int many), .val (.int w), s3, .val (.int here), s5, .un] = .ok (.f (.list ((latM q many here).map PyData.int))) [.val F, .val (.int many), .val (.int w), s3, .val (.int here), s5, .un] := by
  have sm1 : small62 (here + 1) = true := small' (by omega) (by omega)
  have sm2 : small62 (many : Int) = true := small' (by omega) (by omega)
  refine cm_fil (en := PyData.int) (xs := inR (here + 1) ((many : Int) - (here + 1)).toNat) (q here) PyData.int rfl (by simp! [sm1, sm2, rng_inR]) (fun j hj => ?_) (fun j hj _ => ?_) (by rw [inR_len]; show _ ≤ 16777216; omega)
  · have := mem_inR.mp hj
    simp! [hq here j h1 (by omega) (by omega)]
  · simp! []
theorem comp39 (hq : ∀ i j : Int, -1 ≤ i → i < j → j < many → callN P W N 34 [.val F, .val (.int i), .val (.int j), .val (.int w)] = .ok false (.bool (q i j)) []) (hm : many ≤ 100) (here : Int) (h1 : -1 ≤ here) (h2 : here < many) (s3 s5 s6 : Sl) :
    (ev (callN P W N) f35_c0).1 [.val F, .val (.int many), .val (.int w), s3, .val (.int here), s5, s6, .un] = .ok (.f (.list ((latM q many here).map PyData.int))) [.val F, .val (.int many), .val (.int w), s3, .val (.int here), s5, s6, .un] := by
  have sm1 : small62 (here + 1) = true := small' (by omega) (by omega)
  have sm2 : small62 (many : Int) = true := small' (by omega) (by omega)
  refine cm_fil (en := PyData.int) (xs := inR (here + 1) ((many : Int) - (here + 1)).toNat) (q here) PyData.int rfl (by simp! [sm1, sm2, rng_inR]) (fun j hj => ?_) (fun j hj _ => ?_) (by rw [inR_len]; show _ ≤ 16777216; omega)
  · have := mem_inR.mp hj
    simp! [hq here j h1 (by omega) (by omega)]
  · simp! []
theorem add_tup (l : List Int) (x : Int) (h : l.length ≤ 1000) : bop .add (.tuple (l.map PyData.int)) (.tuple [.int x]) = some (.d (.tuple ((l ++ [x]).map PyData.int))) := by
  rw [bop_tup, List.map_append]
  refine if_pos ?_
  rw [List.length_map]
  show _ + 1 ≤ 16777216
  omega
theorem loop22 (hq : ∀ i j : Int, -1 ≤ i → i < j → j < many → callN P W N 18 [.val F, .val (.int i), .val (.int j), .val (.int w)] = .ok false (.bool (q i j)) []) (hm : many ≤ 100) :
    ∀ (n : Nat) (here : Int) (found : List Int) (s5 : Sl) (k : Nat), Free s5 → -1 ≤ here → here < (many : Int) - 1 → (many : Int) - 1 - here ≤ n → found.length + n ≤ 200 → n < k →
    ∃ s3 s4 t5, whileN (fun r => (ev (callN P W N) (.cmp .lt (.var 4) (.bin .sub (.var 1) (.cst (.int 1))))).2 r) (fun r => evB (callN P W N) W f19_b0 r) k [.val F, .val (.int many), .val (.int w), .val (.tuple (found.map PyData.int)), .val (.int here), s5, .un] =
      match takM q many n here found with
      | none => .ok (.ret false .none) [.val F, .val (.int many), .val (.int w), s3, s4, t5, .un]
      | some l => .ok .nx [.val F, .val (.int many), .val (.int w), .val (.tuple (l.map PyData.int)), s4, t5, .un]
  | 0, here, found, s5, k, h5, h1, h2, h3, h4, hk => by omega
  | n + 1, here, found, s5, k, h5, h1, h2, h3, h4, hk => by
    obtain ⟨k, rfl⟩ : ∃ j, k = j + 1 := ⟨k - 1, by omega⟩
    have ec := comp22 q many hq hm here h1 (by omega) (.val (.tuple (found.map PyData.int))) s5
    have hcond : (ev (callN P W N) (.cmp .lt (.var 4) (.bin .sub (.var 1) (.cst (.int 1))))).2 [.val F, .val (.int many), .val (.int w), .val (.tuple (found.map PyData.int)), .val (.int here), s5, .un] = .ok true [.val F, .val (.int many), .val (.int w), .val (.tuple (found.map PyData.int)), .val (.int here), s5, .un] := by simp! [h2]
    have en := eq_ints (latM q many here)
    have eb : f19_b0 = IB.cons (.asg (.n 5 false) f19_c0) (.cons (.ifs (.cmp .eq (.var 5) (.lst .nil)) (.cons (.ret (.cst .none)) .nil) .nil) (.cons (.asp [(.n 3 false), (.n 4 false)] (.cons (.bin .add (.var 3) (.tup (.cons (.idx (.var 5) (.neg (.cst (.int 1)))) .nil))) (.cons (.idx (.var 5) (.neg (.cst (.int 1)))) .nil))) .nil)) := rfl
    have ea := fun x => add_tup found x (by omega)
    rcases lat_case q many here with ⟨g1, g2⟩ | ⟨t, x, g1, g2, g3, g4⟩
    · have en : cop .eq (.list ((latM q many here).map PyData.int)) (.list []) = some true := by rw [en, g1]; rfl
      have et : takM q many (n + 1) here found = none := by unfold takM; rw [g2]
      rw [et]
      refine ⟨.val (.tuple (found.map PyData.int)), .val (.int here), .val (.list ((latM q many here).map PyData.int)), ?_⟩
      show ((ev (callN P W N) _).2 _).bind _ = _
      rw [hcond, bind_ok']
      have e : evB (callN P W N) W f19_b0 [.val F, .val (.int many), .val (.int w), .val (.tuple (found.map PyData.int)), .val (.int here), s5, .un] = .ok (.ret false .none) [.val F, .val (.int many), .val (.int w), .val (.tuple (found.map PyData.int)), .val (.int here), .val (.list ((latM q many here).map PyData.int)), .un] := by
        rw [eb]
        generalize f19_c0 = Z at *
        generalize (latM q many here).map PyData.int = A at *
        simp! [ec, sto_free h5, en]
      show (match evB _ _ _ _ with
        | .ok .nx r' => whileN _ _ k r'
        | .ok .cnt r' => whileN _ _ k r'
        | .ok .brk r' => .ok .nx r'
        | .ok (.ret b v) r' => .ok (.ret b v) r'
        | .exc c d r' => .exc c d r'
        | .stuck => .stuck) = _
      rw [e]
    · have hx := lat_mem q many g3
      have hne : decide (latM q many here = []) = false := by rw [g1]; simp
      have en : cop .eq (.list ((latM q many here).map PyData.int)) (.list []) = some false := by rw [en, hne]
      have e : evB (callN P W N) W f19_b0 [.val F, .val (.int many), .val (.int w), .val (.tuple (found.map PyData.int)), .val (.int here), s5, .un] = .ok .nx [.val F, .val (.int many), .val (.int w), .val (.tuple ((found ++ [x]).map PyData.int)), .val (.int x), .val (.list ((latM q many here).map PyData.int)), .un] := by
        rw [eb]
        generalize f19_c0 = Z at *
        have ea' := ea x
        generalize (latM q many here).map PyData.int = A at *
        generalize (found ++ [x]).map PyData.int = B at *
        generalize found.map PyData.int = C at *
        simp! [ec, sto_free h5, en, g4, ea']
      rw [whl_nx hcond e]
      have et : takM q many (n + 1) here found = if x = (many : Int) - 1 then some (found ++ [x]) else takM q many n x (found ++ [x]) := by
        show (match (latM q many here).getLast? with | none => none | some x => _) = _
        rw [g2]
      rw [et]
      by_cases hxm : x = (many : Int) - 1
      · rw [if_pos hxm]
        refine ⟨.un, .val (.int x), .val (.list ((latM q many here).map PyData.int)), ?_⟩
        obtain ⟨k, rfl⟩ : ∃ j, k = j + 1 := ⟨k - 1, by omega⟩
        refine whl_end ?_
        have : ¬ x < (many : Int) - 1 := by omega
        simp! [this]
      · rw [if_neg hxm]
        exact loop22 hq hm n x (found ++ [x]) _ k (.inr ⟨_, rfl⟩) (by omega) (by omega) (by omega) (by rw [List.length_append, List.length_singleton]; omega) (by omega)
theorem taken22 (hq : ∀ i j : Int, -1 ≤ i → i < j → j < many → callN P W N 18 [.val F, .val (.int i), .val (.int j), .val (.int w)] = .ok false (.bool (q i j)) []) (hm : many ≤ 100) (hm0 : 0 < many) :
    callN P W (N + 1) 19 [.val F, .val (.int many), .val (.int w)] = .ok false (optL (takM q many many (-1) [])) [] := by
  obtain ⟨s3, s4, t5, e⟩ := loop22 q many hq hm many (-1) [] .un W (.inl rfl) (by omega) (by omega) (by omega) (by show 0 + many ≤ 200; omega) (by show many < 1000000; omega)
  rw [step (df := f19) rfl rfl]
  have el := (rfl : evS (callN P W N) W f19_l0 [.val F, .val (.int many), .val (.int w), .val (.tuple []), .val (.int (-1)), .un, .un] = _).trans e
  rw [show f19.body = IB.cons (.asp [(.n 3 false), (.n 4 false)] (.cons (.tup .nil) (.cons (.neg (.cst (.int 1))) .nil))) (.cons f19_l0 (.cons (.ret (.var 3)) .nil)) from rfl]
  generalize f19_l0 = Z at *
  cases hT : takM q many many (-1) [] with
  | none =>
    rw [hT] at el
    simp! [f19, el, optL]
  | some l =>
    rw [hT] at el
    simp! [f19, el, optL]
end
end K65

end
section
set_option maxRecDepth 100000
local macro_rules | `(tactic| simp! [$ts,*]) => `(tactic| simp only [Ev.bind_ok', Ev.bind_stuck', Ev.bind_ite, Ev.of_some', Ev.of_none', Ev.of_ite, Ev.slD_val, Ev.slD_own, Ev.slD_bor, Ev.deref_d, Ev.deref_f, Ev.deref_s, Ev.tru_eq, Ev.truS_some, Ev.truth_bool, Ev.truth_int, Ev.truth_list, Ev.truth_tuple, Ev.un1S_some, Ev.bi2S_some, Ev.andK_b, Ev.orK_b, Ev.negK_i, Ev.varK_val, Ev.varK_own, Ev.varK_bor, Ev.solS_val, Ev.solS_own, Ev.sol_d, Ev.sol_f, Ev.sol_s, Ev.muS_own, Ev.muS_bor, Ev.mutAt_eq, Ev.bop_add, Ev.bop_sub, Ev.bop_mul, Ev.bop_div, Ev.bop_mod, Ev.bop_tup, Ev.bop_lst, Ev.cop_lt, Ev.cop_le, Ev.cop_gt, Ev.cop_ge, Ev.cop_eqi, Ev.cop_eqs, Ev.cop_nei, Ev.cop_nes, Ev.cop_is, Ev.cop_isNot, Ev.cop_in, Ev.is_bb, Ev.e_none, Ev.e_bool, Ev.e_int, Ev.e_str, Ev.e_var, Ev.e_glob, Ev.e_bin, Ev.e_neg, Ev.e_cmp, Ev.chnS_some, Ev.e_chn, Ev.e_not, Ev.e_and, Ev.e_or, Ev.e_ife, Ev.e_tup, Ev.e_lst, Ev.e_idx, Ev.e_isi, Ev.e_bl1, Ev.e_bl2, Ev.callK_v, Ev.callK_f, Ev.callK_v1, Ev.callK_f1, Ev.callK_v2, Ev.argK_some, Ev.e_call, Ev.argsS_nil, Ev.argsS_v, Ev.argsS_l, Ev.lends_nil, Ev.lends_v, Ev.lends_l, Ev.a_nil, Ev.a_cons, Ev.r_nil, Ev.r_cons, Ev.lendK_some, Ev.r_lend, Ev.o_no, Ev.derK_some, Ev.o_yes, Ev.t_no, Ev.t_yes, Ev.i_val, Ev.slS_some, Ev.e_slc, Ev.opt_none, Ev.opt_int, Ev.slice_list, Ev.slice_tup, Ev.e_dsp, Ev.dicS_some, Ev.e_mg2, Ev.rgK_i, Ev.i_rg1, Ev.rgK2_i, Ev.i_rg2, Ev.enK_some, Ev.i_enm, Ev.zpK_some, Ev.i_zip, Ev.c_cst, Ev.c_var, Ev.c_cmp, Ev.c_chn, Ev.c_isi, Ev.c_call, Ev.c_bl1, Ev.c_not, Ev.c_and, Ev.c_or, Ev.c_ife, Ev.seqK_nx, Ev.seqK_brk, Ev.seqK_cnt, Ev.seqK_ret, Ev.seqK_exc, Ev.seqK_stuck, Ev.seqK_ite, Ev.b_nil, Ev.b_cons, Ev.retK_d, Ev.retK_f, Ev.s_ret, Ev.s_retN, Ev.s_asg, Ev.s_ex, Ev.s_if, Ev.s_for, Ev.s_whl, Ev.s_pas, Ev.s_rse, Ev.stoK_un, Ev.stoK_val, Ev.stoK_own, Ev.asn_d, Ev.asn_f, Ev.asn_fo, Ev.asn_t, Ev.asnL_nil, Ev.asnL_cons, Ev.asnP_nil, Ev.asnP_cons, Ev.s_asp, Ev.fK_f, Ev.fK_d, Ev.fK_s, Ev.f_nil, Ev.f_cons, Ev.lendF_some, Ev.setS_own, Ev.setS_bor, Ev.setAt_eq, Ev.ixK_some, Ev.setK_l, Ev.s_sto, Ev.outs_nil, Ev.outs_v, Ev.outs_b, Ev.endK_nx, Ev.endK_ret, Ev.endK_exc, Ev.endK_stuck, Ev.endK_ite, Ev.endS_some, Ev.endCall_eq, Ev.e_emp, Ev.e_din, Ev.e_dix, Ev.sdkS_some, Ev.e_sdk, Ev.e_tin, Ev.e_tix, Ev.e_tg1, Ev.e_tg2, Ev.e_sdt, Ev.c_din, Ev.c_tin, Ev.s_dst, Ev.s_tst, Ev.isN_none, Ev.isN_bool, Ev.isN_int, Ev.isN_str, Ev.isN_list, Ev.isN_tup, Ev.isN_dict, Ev.e_mg1, Ev.appL_l, Ev.appK_l, Ev.s_app, Ev.nd_none, Ev.ty_int_none, Ev.ty_bool_none, Ev.ty_str_none, Ev.ty_tuple_none, Ev.ty_list_none, Ev.nd_bool, Ev.ty_int_bool, Ev.ty_bool_bool, Ev.ty_str_bool, Ev.ty_tuple_bool, Ev.ty_list_bool, Ev.nd_int, Ev.ty_int_int, Ev.ty_bool_int, Ev.ty_str_int, Ev.ty_tuple_int, Ev.ty_list_int, Ev.nd_str, Ev.ty_int_str, Ev.ty_bool_str, Ev.ty_str_str, Ev.ty_tuple_str, Ev.ty_list_str, Ev.nd_list, Ev.ty_int_list, Ev.ty_bool_list, Ev.ty_str_list, Ev.ty_tuple_list, Ev.ty_list_list, Ev.nd_tup, Ev.ty_int_tup, Ev.ty_bool_tup, Ev.ty_str_tup, Ev.ty_tuple_tup, Ev.ty_list_tup, Ev.nd_dict, Ev.ty_int_dict, Ev.ty_bool_dict, Ev.ty_str_dict, Ev.ty_tuple_dict, Ev.ty_list_dict, List.getElem?_cons_zero, List.getElem?_cons_succ, List.getElem?_nil, List.set_cons_zero, List.set_cons_succ, List.length_cons, List.length_nil, List.replicate_succ, List.replicate_zero, List.cons_append, List.nil_append, List.append_nil, List.nodup_nil, List.nodup_cons, List.mem_cons, List.not_mem_nil, List.isEmpty_nil, List.isEmpty_cons, Option.map_some, Option.map_none, Option.bind_some, Option.bind_none, Option.getD_some, Option.getD_none, Option.isSome_some, Option.isSome_none, Option.isNone_some, Option.isNone_none, ite_true, ite_false, if_true, if_false, decide_true, decide_false, decide_eq_true_eq, Bool.not_true, Bool.not_false, Bool.not_not, Bool.true_and, Bool.false_and, Bool.and_true, Bool.and_false, Bool.or_true, Bool.or_false, Bool.true_or, Bool.false_or, Bool.not_eq_true, Bool.not_eq_true', Bool.and_self, Bool.or_self, Bool.false_eq_true, reduceCtorEq, not_true_eq_false, not_false_eq_true, or_false, false_or, or_true, true_or, and_true, true_and, and_false, false_and, eq_self, bne_self_eq_false, Nat.reduceAdd, Nat.reduceSub, Nat.reduceLeDiff, Nat.reduceLT, Nat.reduceEqDiff, Nat.zero_add, Nat.reduceMul, Int.reduceNeg, Int.reduceAdd, Int.reduceSub, Int.reduceMul, Int.reduceLT, Int.reduceLE, Int.reduceEq, Int.reduceDiv, Int.reduceMod, Int.reduceToNat, Int.reducePow, Nat.succ_ne_zero, Nat.add_eq_zero_iff, Nat.le_refl, Nat.one_ne_zero, ↓reduceIte, Ev.SZ, $ts,*])
set_option linter.all false
set_option maxRecDepth 100000
set_option maxHeartbeats 4000000
/-! Lines taken one by one, by the law; any lines. -/
namespace K65
open PySem Ev
section
variable (q : Int → Int → Bool) (many : Nat)
variable {N : Nat} {F : D} {w : Int}
theorem loop39 (hq : ∀ i j : Int, -1 ≤ i → i < j → j < many → callN P W N 34 [.val F, .val (.int i), .val (.int j), .val (.int w)] = .ok false (.bool (q i j)) []) (hm : many ≤ 100) :
    ∀ (ts : List Int) (here : Int) (found : List Int) (s5 s6 : Sl), Free s5 → Free s6 → -1 ≤ here → here < many → found.length + ts.length ≤ 200 →
    ∃ s3 s4 t5 t6, (∃ r, r = [Sl.val F, .val (.int many), .val (.int w), s3, s4, t5, t6, .un] ∧ forL (fun x r2 => (asn (.n 5 false) (.d x) r2).bind fun _ r3 => evB (callN P W N) W f35_b0 r3) (ts.map PyData.int) [.val F, .val (.int many), .val (.int w), .val (.tuple (found.map PyData.int)), .val (.int here), s5, s6, .un] = .ok (.ret false (optL (takM q many ts.length here found))) r) ∨
      (takM q many ts.length here found = none ∧ forL (fun x r2 => (asn (.n 5 false) (.d x) r2).bind fun _ r3 => evB (callN P W N) W f35_b0 r3) (ts.map PyData.int) [.val F, .val (.int many), .val (.int w), .val (.tuple (found.map PyData.int)), .val (.int here), s5, s6, .un] = .ok .nx [.val F, .val (.int many), .val (.int w), s3, s4, t5, t6, .un])
  | [], here, found, s5, s6, h5, h6, h1, h2, h3 => ⟨_, _, _, _, .inr ⟨rfl, rfl⟩⟩
  | t :: ts, here, found, s5, s6, h5, h6, h1, h2, h3 => by
    have ec := comp39 q many hq hm here h1 h2 (.val (.tuple (found.map PyData.int))) (.val (.int t)) s6
    have en := eq_ints (latM q many here)
    have eb : f35_b0 = IB.cons (.asg (.n 6 false) f35_c0) (.cons (.ifs (.cmp .eq (.var 6) (.lst .nil)) (.cons (.ret (.cst .none)) .nil) .nil) (.cons (.asg (.n 4 false) (.idx (.var 6) (.neg (.cst (.int 1))))) (.cons (.asg (.n 3 false) (.bin .add (.var 3) (.tup (.cons (.var 4) .nil)))) (.cons (.ifs (.cmp .eq (.var 4) (.bin .sub (.var 1) (.cst (.int 1)))) (.cons (.ret (.var 3)) .nil) .nil) .nil)))) := rfl
    rw [List.length_cons] at h3 ⊢
    have ea := fun x => add_tup found x (by omega)
    rcases lat_case q many here with ⟨g1, g2⟩ | ⟨t', x, g1, g2, g3, g4⟩
    · have en : cop .eq (.list ((latM q many here).map PyData.int)) (.list []) = some true := by rw [en, g1]; rfl
      have et : takM q many (ts.length + 1) here found = none := by unfold takM; rw [g2]
      rw [et]
      refine ⟨.val (.tuple (found.map PyData.int)), .val (.int here), .val (.int t), .val (.list ((latM q many here).map PyData.int)), .inl ⟨_, rfl, ?_⟩⟩
      have e : ((asn (.n 5 false) (.d (.int t)) [.val F, .val (.int many), .val (.int w), .val (.tuple (found.map PyData.int)), .val (.int here), s5, s6, .un]).bind fun _ r3 => evB (callN P W N) W f35_b0 r3) = .ok (.ret false .none) [Sl.val F, .val (.int many), .val (.int w), .val (.tuple (found.map PyData.int)), .val (.int here), .val (.int t), .val (.list ((latM q many here).map PyData.int)), .un] := by
        rw [eb]
        generalize f35_c0 = Z at *
        generalize (latM q many here).map PyData.int = A at *
        simp! [ec, sto_free h5, sto_free h6, en]
      rw [List.map_cons, for_ret e]
      rfl
    · have hx := lat_mem q many g3
      have hne : decide (latM q many here = []) = false := by rw [g1]; simp
      have en : cop .eq (.list ((latM q many here).map PyData.int)) (.list []) = some false := by rw [en, hne]
      have et : takM q many (ts.length + 1) here found = if x = (many : Int) - 1 then some (found ++ [x]) else takM q many ts.length x (found ++ [x]) := by
        show (match (latM q many here).getLast? with | none => none | some x => _) = _
        rw [g2]
      rw [et]
      by_cases hxm : x = (many : Int) - 1
      · rw [if_pos hxm]
        refine ⟨.val (.tuple ((found ++ [x]).map PyData.int)), .val (.int x), .val (.int t), .val (.list ((latM q many here).map PyData.int)), .inl ⟨_, rfl, ?_⟩⟩
        have e : ((asn (.n 5 false) (.d (.int t)) [.val F, .val (.int many), .val (.int w), .val (.tuple (found.map PyData.int)), .val (.int here), s5, s6, .un]).bind fun _ r3 => evB (callN P W N) W f35_b0 r3) = .ok (.ret false (.tuple ((found ++ [x]).map PyData.int))) [Sl.val F, .val (.int many), .val (.int w), .val (.tuple ((found ++ [x]).map PyData.int)), .val (.int x), .val (.int t), .val (.list ((latM q many here).map PyData.int)), .un] := by
          rw [eb]
          generalize f35_c0 = Z at *
          have ea' := ea x
          generalize (latM q many here).map PyData.int = A at *
          generalize (found ++ [x]).map PyData.int = B at *
          generalize found.map PyData.int = C at *
          simp! [ec, sto_free h5, sto_free h6, en, g4, ea', eq_true hxm]
        rw [List.map_cons, for_ret e]
        rfl
      · rw [if_neg hxm]
        have e : ((asn (.n 5 false) (.d (.int t)) [.val F, .val (.int many), .val (.int w), .val (.tuple (found.map PyData.int)), .val (.int here), s5, s6, .un]).bind fun _ r3 => evB (callN P W N) W f35_b0 r3) = .ok .nx [Sl.val F, .val (.int many), .val (.int w), .val (.tuple ((found ++ [x]).map PyData.int)), .val (.int x), .val (.int t), .val (.list ((latM q many here).map PyData.int)), .un] := by
          rw [eb]
          generalize f35_c0 = Z at *
          have ea' := ea x
          generalize (latM q many here).map PyData.int = A at *
          generalize (found ++ [x]).map PyData.int = B at *
          generalize found.map PyData.int = C at *
          simp! [ec, sto_free h5, sto_free h6, en, g4, ea', hxm]
        rw [List.map_cons, for_nx e]
        exact loop39 hq hm ts x (found ++ [x]) _ _ (.inr ⟨_, rfl⟩) (.inr ⟨_, rfl⟩) (by omega) (by omega) (by rw [List.length_append, List.length_singleton]; omega)
theorem ei39 (hm : many ≤ 100) : evI (callN P W N) (.rg1 (.var 1)) [.val F, .val (.int many), .val (.int w), .val (.tuple []), .val (.int (-1)), .un, .un, .un] = .ok ((inR 0 many).map PyData.int) [.val F, .val (.int many), .val (.int w), .val (.tuple []), .val (.int (-1)), .un, .un, .un] := rg1_inN (by simp! []) (by omega)
theorem el39 (hm : many ≤ 100) : evS (callN P W N) W f35_l0 [.val F, .val (.int many), .val (.int w), .val (.tuple []), .val (.int (-1)), .un, .un, .un] = forL (fun x r2 => (asn (.n 5 false) (.d x) r2).bind fun _ r3 => evB (callN P W N) W f35_b0 r3) ((inR 0 many).map PyData.int) [.val F, .val (.int many), .val (.int w), .val (.tuple []), .val (.int (-1)), .un, .un, .un] := by
    rw [show f35_l0 = IS.fr (.n 5 false) (.rg1 (.var 1)) f35_b0 from rfl, s_for, ei39 many hm, bind_ok']
theorem en39 (Z : IS) (l : D) (r : List Sl) (el : evS (callN P W N) W Z [.val F, .val (.int many), .val (.int w), .val (.tuple []), .val (.int (-1)), .un, .un, .un] = .ok (.ret false l) (.val F :: .val (.int many) :: .val (.int w) :: r)) : endK [.val F, .val (.int many), .val (.int w)] (evB (callN P W N) W (IB.cons (.asp [(.n 3 false), (.n 4 false)] (.cons (.tup .nil) (.cons (.neg (.cst (.int 1))) .nil))) (.cons Z (.cons (.ret (.cst .none)) .nil))) ([.val F, .val (.int many), .val (.int w)] ++ List.replicate (f35.names.length - f35.np) .un)) = .ok false l [] := by
    simp! [f35, el]
theorem eb39 : f35.body = IB.cons (.asp [(.n 3 false), (.n 4 false)] (.cons (.tup .nil) (.cons (.neg (.cst (.int 1))) .nil))) (.cons f35_l0 (.cons (.ret (.cst .none)) .nil)) := rfl
theorem em39 (Z : IS) (r : List Sl) (el : evS (callN P W N) W Z [.val F, .val (.int many), .val (.int w), .val (.tuple []), .val (.int (-1)), .un, .un, .un] = .ok .nx (.val F :: .val (.int many) :: .val (.int w) :: r)) : endK [.val F, .val (.int many), .val (.int w)] (evB (callN P W N) W (IB.cons (.asp [(.n 3 false), (.n 4 false)] (.cons (.tup .nil) (.cons (.neg (.cst (.int 1))) .nil))) (.cons Z (.cons (.ret (.cst .none)) .nil))) ([.val F, .val (.int many), .val (.int w)] ++ List.replicate (f35.names.length - f35.np) .un)) = .ok false .none [] := by
    simp! [f35, el]
theorem taken39 (hq : ∀ i j : Int, -1 ≤ i → i < j → j < many → callN P W N 34 [.val F, .val (.int i), .val (.int j), .val (.int w)] = .ok false (.bool (q i j)) []) (hm : many ≤ 100) :
    callN P W (N + 1) 35 [.val F, .val (.int many), .val (.int w)] = .ok false (optL (takM q many many (-1) [])) [] := by
  have hl : ([] : List Int).length + (inR 0 many).length ≤ 200 := by rw [inR_len]; show 0 + many ≤ 200; omega
  obtain ⟨s3, s4, t5, t6, e⟩ := loop39 q many hq hm (inR 0 many) (-1) [] .un .un (.inl rfl) (.inl rfl) (by omega) (by omega) hl
  rw [inR_len] at e
  have el := el39 (N := N) (F := F) (w := w) many hm
  rw [step (df := f35) rfl rfl, eb39]
  rcases e with ⟨r, hr, e⟩ | ⟨hn, e⟩
  · subst hr
    exact en39 many _ _ _ (el.trans e)
  · rw [hn]
    exact em39 many _ _ (el.trans e)
end
end K65

end
section
set_option maxRecDepth 100000
local macro_rules | `(tactic| simp! [$ts,*]) => `(tactic| simp only [Ev.bind_ok', Ev.bind_stuck', Ev.bind_ite, Ev.of_some', Ev.of_none', Ev.of_ite, Ev.slD_val, Ev.slD_own, Ev.slD_bor, Ev.deref_d, Ev.deref_f, Ev.deref_s, Ev.tru_eq, Ev.truS_some, Ev.truth_bool, Ev.truth_int, Ev.truth_list, Ev.truth_tuple, Ev.un1S_some, Ev.bi2S_some, Ev.andK_b, Ev.orK_b, Ev.negK_i, Ev.varK_val, Ev.varK_own, Ev.varK_bor, Ev.solS_val, Ev.solS_own, Ev.sol_d, Ev.sol_f, Ev.sol_s, Ev.muS_own, Ev.muS_bor, Ev.mutAt_eq, Ev.bop_add, Ev.bop_sub, Ev.bop_mul, Ev.bop_div, Ev.bop_mod, Ev.bop_tup, Ev.bop_lst, Ev.cop_lt, Ev.cop_le, Ev.cop_gt, Ev.cop_ge, Ev.cop_eqi, Ev.cop_eqs, Ev.cop_nei, Ev.cop_nes, Ev.cop_is, Ev.cop_isNot, Ev.cop_in, Ev.is_bb, Ev.e_none, Ev.e_bool, Ev.e_int, Ev.e_str, Ev.e_var, Ev.e_glob, Ev.e_bin, Ev.e_neg, Ev.e_cmp, Ev.chnS_some, Ev.e_chn, Ev.e_not, Ev.e_and, Ev.e_or, Ev.e_ife, Ev.e_tup, Ev.e_lst, Ev.e_idx, Ev.e_isi, Ev.e_bl1, Ev.e_bl2, Ev.callK_v, Ev.callK_f, Ev.callK_v1, Ev.callK_f1, Ev.callK_v2, Ev.argK_some, Ev.e_call, Ev.argsS_nil, Ev.argsS_v, Ev.argsS_l, Ev.lends_nil, Ev.lends_v, Ev.lends_l, Ev.a_nil, Ev.a_cons, Ev.r_nil, Ev.r_cons, Ev.lendK_some, Ev.r_lend, Ev.o_no, Ev.derK_some, Ev.o_yes, Ev.t_no, Ev.t_yes, Ev.i_val, Ev.slS_some, Ev.e_slc, Ev.opt_none, Ev.opt_int, Ev.slice_list, Ev.slice_tup, Ev.e_dsp, Ev.dicS_some, Ev.e_mg2, Ev.rgK_i, Ev.i_rg1, Ev.rgK2_i, Ev.i_rg2, Ev.enK_some, Ev.i_enm, Ev.zpK_some, Ev.i_zip, Ev.c_cst, Ev.c_var, Ev.c_cmp, Ev.c_chn, Ev.c_isi, Ev.c_call, Ev.c_bl1, Ev.c_not, Ev.c_and, Ev.c_or, Ev.c_ife, Ev.seqK_nx, Ev.seqK_brk, Ev.seqK_cnt, Ev.seqK_ret, Ev.seqK_exc, Ev.seqK_stuck, Ev.seqK_ite, Ev.b_nil, Ev.b_cons, Ev.retK_d, Ev.retK_f, Ev.s_ret, Ev.s_retN, Ev.s_asg, Ev.s_ex, Ev.s_if, Ev.s_for, Ev.s_whl, Ev.s_pas, Ev.s_rse, Ev.stoK_un, Ev.stoK_val, Ev.stoK_own, Ev.asn_d, Ev.asn_f, Ev.asn_fo, Ev.asn_t, Ev.asnL_nil, Ev.asnL_cons, Ev.asnP_nil, Ev.asnP_cons, Ev.s_asp, Ev.fK_f, Ev.fK_d, Ev.fK_s, Ev.f_nil, Ev.f_cons, Ev.lendF_some, Ev.setS_own, Ev.setS_bor, Ev.setAt_eq, Ev.ixK_some, Ev.setK_l, Ev.s_sto, Ev.outs_nil, Ev.outs_v, Ev.outs_b, Ev.endK_nx, Ev.endK_ret, Ev.endK_exc, Ev.endK_stuck, Ev.endK_ite, Ev.endS_some, Ev.endCall_eq, Ev.e_emp, Ev.e_din, Ev.e_dix, Ev.sdkS_some, Ev.e_sdk, Ev.e_tin, Ev.e_tix, Ev.e_tg1, Ev.e_tg2, Ev.e_sdt, Ev.c_din, Ev.c_tin, Ev.s_dst, Ev.s_tst, Ev.isN_none, Ev.isN_bool, Ev.isN_int, Ev.isN_str, Ev.isN_list, Ev.isN_tup, Ev.isN_dict, Ev.e_mg1, Ev.appL_l, Ev.appK_l, Ev.s_app, Ev.nd_none, Ev.ty_int_none, Ev.ty_bool_none, Ev.ty_str_none, Ev.ty_tuple_none, Ev.ty_list_none, Ev.nd_bool, Ev.ty_int_bool, Ev.ty_bool_bool, Ev.ty_str_bool, Ev.ty_tuple_bool, Ev.ty_list_bool, Ev.nd_int, Ev.ty_int_int, Ev.ty_bool_int, Ev.ty_str_int, Ev.ty_tuple_int, Ev.ty_list_int, Ev.nd_str, Ev.ty_int_str, Ev.ty_bool_str, Ev.ty_str_str, Ev.ty_tuple_str, Ev.ty_list_str, Ev.nd_list, Ev.ty_int_list, Ev.ty_bool_list, Ev.ty_str_list, Ev.ty_tuple_list, Ev.ty_list_list, Ev.nd_tup, Ev.ty_int_tup, Ev.ty_bool_tup, Ev.ty_str_tup, Ev.ty_tuple_tup, Ev.ty_list_tup, Ev.nd_dict, Ev.ty_int_dict, Ev.ty_bool_dict, Ev.ty_str_dict, Ev.ty_tuple_dict, Ev.ty_list_dict, List.getElem?_cons_zero, List.getElem?_cons_succ, List.getElem?_nil, List.set_cons_zero, List.set_cons_succ, List.length_cons, List.length_nil, List.replicate_succ, List.replicate_zero, List.cons_append, List.nil_append, List.append_nil, List.nodup_nil, List.nodup_cons, List.mem_cons, List.not_mem_nil, List.isEmpty_nil, List.isEmpty_cons, Option.map_some, Option.map_none, Option.bind_some, Option.bind_none, Option.getD_some, Option.getD_none, Option.isSome_some, Option.isSome_none, Option.isNone_some, Option.isNone_none, ite_true, ite_false, if_true, if_false, decide_true, decide_false, decide_eq_true_eq, Bool.not_true, Bool.not_false, Bool.not_not, Bool.true_and, Bool.false_and, Bool.and_true, Bool.and_false, Bool.or_true, Bool.or_false, Bool.true_or, Bool.false_or, Bool.not_eq_true, Bool.not_eq_true', Bool.and_self, Bool.or_self, Bool.false_eq_true, reduceCtorEq, not_true_eq_false, not_false_eq_true, or_false, false_or, or_true, true_or, and_true, true_and, and_false, false_and, eq_self, bne_self_eq_false, Nat.reduceAdd, Nat.reduceSub, Nat.reduceLeDiff, Nat.reduceLT, Nat.reduceEqDiff, Nat.zero_add, Nat.reduceMul, Int.reduceNeg, Int.reduceAdd, Int.reduceSub, Int.reduceMul, Int.reduceLT, Int.reduceLE, Int.reduceEq, Int.reduceDiv, Int.reduceMod, Int.reduceToNat, Int.reducePow, Nat.succ_ne_zero, Nat.add_eq_zero_iff, Nat.le_refl, Nat.one_ne_zero, ↓reduceIte, Ev.SZ, $ts,*])
set_option linter.all false
set_option maxRecDepth 100000
set_option maxHeartbeats 4000000
/-! Any lines that fit. -/
namespace K65
open PySem Ev
section
variable (q : Int → Int → Bool)
abbrev Ws := List (Int × List Int)
def encI (v : List Int) : D := .tuple (v.map PyData.int)
abbrev wD (ws : Ws) : D := wayD encI ws
def firstsM (ws : Ws) (last : Nat) : List Int := (inR (-1) (last + 1)).filter fun k => (lookW ws k).isSome && q k last
def stepW (ws : Ws) (last : Nat) : Ws := match firstsM q ws last with
  | [] => ws
  | f :: _ => ws ++ [((last : Int), ((lookW ws f).getD []) ++ [(last : Int)])]
def pathTo : Int → List Int → Int → Prop
  | h, [], k => h = k
  | h, x :: r, k => h < x ∧ q h x = true ∧ pathTo x r k
theorem path_snoc : ∀ (v : List Int) (h k x : Int), pathTo q h v k → k < x → q k x = true → pathTo q h (v ++ [x]) x
  | [], h, k, x, hp, h1, h2 => by
    have hp : h = k := hp
    subst hp
    exact ⟨h1, h2, rfl⟩
  | y :: v, h, k, x, hp, h1, h2 => ⟨hp.1, hp.2.1, path_snoc v y k x hp.2.2 h1 h2⟩
/-- what is known of ways up to a place -/
structure Iw (ws : Ws) (n : Nat) : Prop where
  keys : ∀ p ∈ ws, -1 ≤ p.1 ∧ p.1 < n
  path : ∀ p ∈ ws, pathTo q (-1) p.2 p.1
  len : ∀ p ∈ ws, p.2.length ≤ n
  num : ws.length ≤ n + 1
theorem iw_step {ws : Ws} {n : Nat} (h : Iw q ws n) : Iw q (stepW q ws n) (n + 1) := by
  cases hf : firstsM q ws n with
  | nil =>
    have es : stepW q ws n = ws := by unfold stepW; rw [hf]
    rw [es]
    exact ⟨fun p hp => by have := h.keys p hp; omega, h.path, fun p hp => by have := h.len p hp; omega, by have := h.num; omega⟩
  | cons f r =>
    have hm : f ∈ firstsM q ws n := by rw [hf]; exact List.mem_cons_self
    obtain ⟨h1, h2⟩ := List.mem_filter.mp hm
    rw [Bool.and_eq_true] at h2
    obtain ⟨v, hv⟩ := Option.isSome_iff_exists.mp h2.1
    have hp := h.path _ (lookW_mem hv)
    have hl := h.len _ (lookW_mem hv)
    have hk := h.keys _ (lookW_mem hv)
    have es : stepW q ws n = ws ++ [((n : Int), v ++ [(n : Int)])] := by unfold stepW; rw [hf]; show ws ++ [((n : Int), ((lookW ws f).getD []) ++ [(n : Int)])] = _; rw [hv]; rfl
    rw [es]
    refine ⟨fun p hp => ?_, fun p hp' => ?_, fun p hp' => ?_, ?_⟩
    · rcases List.mem_append.mp hp with h3 | h3
      · have := h.keys p h3; omega
      · rw [List.mem_singleton] at h3
        subst h3
        show -1 ≤ (n : Int) ∧ (n : Int) < ((n + 1 : Nat) : Int)
        omega
    · rcases List.mem_append.mp hp' with h3 | h3
      · exact h.path p h3
      · rw [List.mem_singleton] at h3
        subst h3
        exact path_snoc q v (-1) f n hp hk.2 h2.2
    · rcases List.mem_append.mp hp' with h3 | h3
      · have := h.len p h3; omega
      · rw [List.mem_singleton] at h3
        subst h3
        show (v ++ [(n : Int)]).length ≤ n + 1
        have : v.length ≤ n := hl
        rw [List.length_append, List.length_singleton]
        omega
    · rw [List.length_append, List.length_singleton]
      have := h.num
      omega
def waysM : Nat → Ws
  | 0 => [(-1, [])]
  | n + 1 => stepW q (waysM n) n
theorem iw_all : ∀ n : Nat, Iw q (waysM q n) n
  | 0 => ⟨fun p hp => by rw [List.mem_singleton.mp hp]; show (-1 : Int) ≤ -1 ∧ (-1 : Int) < ((0 : Nat) : Int); omega, fun p hp => by rw [List.mem_singleton.mp hp]; rfl, fun p hp => by rw [List.mem_singleton.mp hp]; exact Nat.le_refl _, Nat.le_refl _⟩
  | n + 1 => iw_step q (iw_all n)
theorem key_new {ws : Ws} {n : Nat} (h : Iw q ws n) : (n : Int) ∉ ws.map (·.1) := fun hm => by
  obtain ⟨p, hp, e⟩ := List.mem_map.mp hm
  have := h.keys p hp
  omega
variable (many : Nat) {N : Nat} {F : D} {w : Int}
theorem comp23 (hq : ∀ i j : Int, -1 ≤ i → i < j → j < many → callN P W N 18 [.val F, .val (.int i), .val (.int j), .val (.int w)] = .ok false (.bool (q i j)) []) (hm : many ≤ 100) (ws : Ws) (last : Nat) (hl : last < many) (s5 : Sl) :
    (ev (callN P W N) f20_c0).1 [.val F, .val (.int many), .val (.int w), .val (wD ws), .val (.int last), s5, .un] = .ok (.f (.list ((firstsM q ws last).map PyData.int))) [.val F, .val (.int many), .val (.int w), .val (wD ws), .val (.int last), s5, .un] := by
  have e1 : (ev (callN P W N) (.neg (.cst (.int 1)))).1 [.val F, .val (.int many), .val (.int w), .val (wD ws), .val (.int last), s5, .un] = .ok (.d (.int (-1))) [.val F, .val (.int many), .val (.int w), .val (wD ws), .val (.int last), s5, .un] := by simp! []
  have e2 : (ev (callN P W N) (.var 4)).1 [.val F, .val (.int many), .val (.int w), .val (wD ws), .val (.int last), s5, .un] = .ok (.d (.int last)) [.val F, .val (.int many), .val (.int w), .val (wD ws), .val (.int last), s5, .un] := by simp! []
  have ei := rg2_in e1 e2 (by omega) (by omega)
  rw [show ((last : Int) - -1).toNat = last + 1 by omega] at ei
  refine cm_fil (en := PyData.int) (xs := inR (-1) (last + 1)) (fun k => (lookW ws k).isSome && q k last) PyData.int rfl ei (fun j hj => ?_) (fun j hj _ => by simp! []) (inR_sz (by omega))
  have := mem_inR.mp hj
  have eg := getD1_W encI ws j
  simp! [hq j last (by omega) (by omega) (by omega), eg, and_ok, Option.isSome_map, Bool.decide_eq_true]
theorem body23a (call : Nat → List Sl → CR) (F m w A : D) (s4 s5 : Sl) (h4 : Free s4) (h5 : Free s5) (last : D) (L : List D) (ec : (ev call f20_c0).1 [.val F, .val m, .val w, .val A, .val last, s5, .un] = .ok (.f (.list L)) [.val F, .val m, .val w, .val A, .val last, s5, .un]) (en : cop .ne (.list L) (.list []) = some false) :
    ((asn (.n 4 false) (.d last) [.val F, .val m, .val w, .val A, s4, s5, .un]).bind fun _ r3 => evB call W f20_b0 r3) = .ok .nx [.val F, .val m, .val w, .val A, .val last, .val (.list L), .un] := by
  have eb : f20_b0 = (.cons (.asg (.n 5 false) f20_c0) (.cons (.ifs (.cmp .ne (.var 5) (.lst .nil)) (.cons (.asg (.n 3 false) (.sdk (.var 3) (.var 4) (.bin .add (.dix (.var 3) (.idx (.var 5) (.cst (.int 0)))) (.tup (.cons (.var 4) .nil))))) .nil) .nil) .nil)) := rfl
  rw [eb]
  simp! [ec, en, sto_free h4, sto_free h5]
theorem body23b (call : Nat → List Sl → CR) (F m w A B V V2 : D) (s4 s5 : Sl) (h4 : Free s4) (h5 : Free s5) (last f : D) (L : List D) (ec : (ev call f20_c0).1 [.val F, .val m, .val w, .val A, .val last, s5, .un] = .ok (.f (.list L)) [.val F, .val m, .val w, .val A, .val last, s5, .un]) (en : cop .ne (.list L) (.list []) = some true)
    (ei : idx (.list L) (.int 0) = some f) (eg : getD1 A f = some (some V)) (ea : bop .add V (.tuple [last]) = some (.d V2)) (em : mrgK A last V2 = some B) :
    ((asn (.n 4 false) (.d last) [.val F, .val m, .val w, .val A, s4, s5, .un]).bind fun _ r3 => evB call W f20_b0 r3) = .ok .nx [.val F, .val m, .val w, .val B, .val last, .val (.list L), .un] := by
  have eb : f20_b0 = (.cons (.asg (.n 5 false) f20_c0) (.cons (.ifs (.cmp .ne (.var 5) (.lst .nil)) (.cons (.asg (.n 3 false) (.sdk (.var 3) (.var 4) (.bin .add (.dix (.var 3) (.idx (.var 5) (.cst (.int 0)))) (.tup (.cons (.var 4) .nil))))) .nil) .nil) .nil)) := rfl
  rw [eb]
  simp! [ec, en, sto_free h4, sto_free h5, ei, eg, ea, em]
theorem body23 (hq : ∀ i j : Int, -1 ≤ i → i < j → j < many → callN P W N 18 [.val F, .val (.int i), .val (.int j), .val (.int w)] = .ok false (.bool (q i j)) []) (hm : many ≤ 100) (ws : Ws) (last : Nat) (hl : last < many) (hI : Iw q ws last) (s4 s5 : Sl) (h4 : Free s4) (h5 : Free s5) :
    ((asn (.n 4 false) (.d (.int last)) [.val F, .val (.int many), .val (.int w), .val (wD ws), s4, s5, .un]).bind fun _ r3 => evB (callN P W N) W f20_b0 r3) = .ok .nx [.val F, .val (.int many), .val (.int w), .val (wD (stepW q ws last)), .val (.int last), .val (.list ((firstsM q ws last).map PyData.int)), .un] := by
  have ec := comp23 q many hq hm ws last hl s5
  have en := ne_ints (firstsM q ws last)
  cases hf : firstsM q ws last with
  | nil =>
    have es : stepW q ws last = ws := by unfold stepW; rw [hf]
    rw [hf] at ec en
    rw [es]
    exact body23a _ _ _ _ _ _ _ h4 h5 _ _ ec en
  | cons f r =>
    have hmem : f ∈ firstsM q ws last := by rw [hf]; exact List.mem_cons_self
    obtain ⟨h1, h2⟩ := List.mem_filter.mp hmem
    rw [Bool.and_eq_true] at h2
    obtain ⟨v, hv⟩ := Option.isSome_iff_exists.mp h2.1
    have hlv := hI.len _ (lookW_mem hv)
    have es : stepW q ws last = ws ++ [((last : Int), v ++ [(last : Int)])] := by unfold stepW; rw [hf]; show ws ++ [((last : Int), ((lookW ws f).getD []) ++ [(last : Int)])] = _; rw [hv]; rfl
    rw [hf] at ec en
    rw [es]
    have ei : idx (.list ((f :: r).map PyData.int)) (.int 0) = some (.int f) := idx_natL _ 0 _ rfl
    have eg : getD1 (wayD encI ws) (.int f) = some (some (encI v)) := by rw [getD1_W, hv]; rfl
    have hv1 : v.length ≤ 1000 := by have : v.length ≤ last := hlv; omega
    have hw1 : ws.length < SZ := Nat.lt_of_le_of_lt (show ws.length ≤ 1000 by have := hI.num; omega) (by decide)
    have em := mrgK_W encI (key_new q hI) (v ++ [(last : Int)]) hw1
    exact body23b _ _ _ _ _ _ _ _ _ _ h4 h5 _ _ _ ec en ei eg (add_tup v last hv1) em
theorem loop23 (hq : ∀ i j : Int, -1 ≤ i → i < j → j < many → callN P W N 18 [.val F, .val (.int i), .val (.int j), .val (.int w)] = .ok false (.bool (q i j)) []) (hm : many ≤ 100) :
    ∀ (n k : Nat) (s4 s5 : Sl), k + n = many → Free s4 → Free s5 → ∃ t4 t5, forL (fun x r2 => (asn (.n 4 false) (.d x) r2).bind fun _ r3 => evB (callN P W N) W f20_b0 r3) ((inR k n).map PyData.int) [.val F, .val (.int many), .val (.int w), .val (wD (waysM q k)), s4, s5, .un] = .ok .nx [.val F, .val (.int many), .val (.int w), .val (wD (waysM q many)), t4, t5, .un]
  | 0, k, s4, s5, hk, h4, h5 => by
    rw [show k = many by omega]
    exact ⟨s4, s5, rfl⟩
  | n + 1, k, s4, s5, hk, h4, h5 => by
    have e := body23 q many hq hm (waysM q k) k (by omega) (iw_all q k) s4 s5 h4 h5
    obtain ⟨t4, t5, e2⟩ := loop23 hq hm n (k + 1) (.val (.int k)) (.val (.list ((firstsM q (waysM q k) k).map PyData.int))) (by omega) (.inr ⟨_, rfl⟩) (.inr ⟨_, rfl⟩)
    refine ⟨t4, t5, ?_⟩
    rw [inR_cons, List.map_cons, for_nx e]
    exact e2
def optI2 : Option (List Int) → D := optL
theorem el23 (hm : many ≤ 100) : evS (callN P W N) W f20_l0 [.val F, .val (.int many), .val (.int w), .val (wD [(-1, [])]), .un, .un, .un] = forL (fun x r2 => (asn (.n 4 false) (.d x) r2).bind fun _ r3 => evB (callN P W N) W f20_b0 r3) ((inR 0 many).map PyData.int) [.val F, .val (.int many), .val (.int w), .val (wD [(-1, [])]), .un, .un, .un] := by
  have ei : evI (callN P W N) (.rg1 (.var 1)) [.val F, .val (.int many), .val (.int w), .val (wD [(-1, [])]), .un, .un, .un] = _ := rg1_inN (n := many) (r' := [.val F, .val (.int many), .val (.int w), .val (wD [(-1, [])]), .un, .un, .un]) (by simp! []) (by omega)
  rw [show f20_l0 = IS.fr (.n 4 false) (.rg1 (.var 1)) f20_b0 from rfl, s_for, ei, bind_ok']
theorem eb23 : f20.body = (.cons (.asg (.n 3 false) (.dsp [(.int (-1))] (.cons (.tup .nil) .nil))) (.cons f20_l0 (.cons (.ret (.mg1 (.var 3) (.bin .sub (.var 1) (.cst (.int 1))))) .nil))) := rfl
theorem isDW (ws : Ws) : isDict (wD ws) = true := by
  cases ws with
  | nil => rfl
  | cons p ws => cases ws <;> rfl
theorem disp23 : dispD [.int (-1)] [.tuple []] = some [(.int (-1), .tuple [])] := by rfl
theorem en23 (Z : IS) (ws : Ws) (t4 t5 : Sl) (el : evS (callN P W N) W Z [.val F, .val (.int many), .val (.int w), .val (wD [(-1, [])]), .un, .un, .un] = .ok .nx [.val F, .val (.int many), .val (.int w), .val (wD ws), t4, t5, .un]) :
    endK [.val F, .val (.int many), .val (.int w)] (evB (callN P W N) W (.cons (.asg (.n 3 false) (.dsp [(.int (-1))] (.cons (.tup .nil) .nil))) (.cons Z (.cons (.ret (.mg1 (.var 3) (.bin .sub (.var 1) (.cst (.int 1))))) .nil))) ([.val F, .val (.int many), .val (.int w)] ++ List.replicate (f20.names.length - f20.np) .un)) = .ok false (optL (lookW ws ((many : Int) - 1))) [] := by
  have e0 : PyData.dict [(.int (-1), .tuple [])] = wD [(-1, [])] := rfl
  have eg := getD1_W encI ws ((many : Int) - 1)
  have ed := isDW ws
  simp only [wD] at *
  cases hl : lookW ws ((many : Int) - 1) with
  | none =>
    rw [hl] at eg
    have eg' : getD1 (wayD encI ws) (.int ((many : Int) - 1)) = some none := eg
    simp! [f20, disp23, e0, el, eg', ed, optL]
  | some v =>
    rw [hl] at eg
    have eg' : getD1 (wayD encI ws) (.int ((many : Int) - 1)) = some (some (encI v)) := eg
    simp! [f20, disp23, e0, el, eg', ed, optL]
    rfl
theorem lines23 (hq : ∀ i j : Int, -1 ≤ i → i < j → j < many → callN P W N 18 [.val F, .val (.int i), .val (.int j), .val (.int w)] = .ok false (.bool (q i j)) []) (hm : many ≤ 100) :
    callN P W (N + 1) 20 [.val F, .val (.int many), .val (.int w)] = .ok false (optL (lookW (waysM q many) ((many : Int) - 1))) [] := by
  obtain ⟨t4, t5, e⟩ := loop23 q many hq hm many 0 .un .un (by omega) (.inl rfl) (.inl rfl)
  rw [step (df := f20) rfl rfl, eb23]
  exact en23 many _ _ _ _ ((el23 many hm).trans e)
/-! the law's word -/
theorem comp40 (hq : ∀ i j : Int, -1 ≤ i → i < j → j < many → callN P W N 34 [.val F, .val (.int i), .val (.int j), .val (.int w)] = .ok false (.bool (q i j)) []) (hm : many ≤ 100) (ks : List Int) (last : Nat) (hl : last < many) (hk : ∀ k ∈ ks, -1 ≤ k ∧ k < last) (hkl : ks.length ≤ 200) :
    (ev (callN P W N) f36_c0).1 [.val F, .val (.int many), .val (.int w), .own (.list (ks.map PyData.int)), .val (.int last), .un] = .ok (.f (.list ((ks.filter fun k => q k last).map PyData.int))) [.val F, .val (.int many), .val (.int w), .own (.list (ks.map PyData.int)), .val (.int last), .un] := by
  refine cmo_fil (en := PyData.int) (xs := ks) (fun k => q k last) PyData.int (by decide) (by simp! []) rfl (fun j hj => ?_) (fun j hj _ => by simp! []) (by show _ ≤ 16777216; omega)
  have := hk j hj
  simp! [hq j last (by omega) (by omega) (by omega)]
theorem firsts_iff {ws : Ws} {last : Nat} (h : Iw q ws last) : decide ((ws.map (·.1)).filter (fun k => q k last) ≠ []) = decide (firstsM q ws last ≠ []) := by
  rw [Bool.eq_iff_iff, decide_eq_true_iff, decide_eq_true_iff]
  constructor
  · intro hne
    obtain ⟨k, hk⟩ := List.exists_mem_of_ne_nil _ hne
    obtain ⟨h1, h2⟩ := List.mem_filter.mp hk
    obtain ⟨p, hp, rfl⟩ := List.mem_map.mp h1
    have hb := h.keys p hp
    exact List.ne_nil_of_mem (List.mem_filter.mpr ⟨mem_inR.mpr (by omega : -1 ≤ p.1 ∧ p.1 < -1 + ((last + 1 : Nat) : Int)), by rw [lookW_some, decide_eq_true h1, h2]; rfl⟩)
  · intro hne
    obtain ⟨k, hk⟩ := List.exists_mem_of_ne_nil _ hne
    obtain ⟨h1, h2⟩ := List.mem_filter.mp hk
    rw [Bool.and_eq_true, lookW_some, decide_eq_true_iff] at h2
    exact List.ne_nil_of_mem (List.mem_filter.mpr h2)
theorem keys_step (ws : Ws) (last : Nat) : (stepW q ws last).map (·.1) = if firstsM q ws last ≠ [] then ws.map (·.1) ++ [(last : Int)] else ws.map (·.1) := by
  unfold stepW
  cases firstsM q ws last with
  | nil => rfl
  | cons f r => rw [if_pos (by simp), List.map_append]; rfl
theorem body40 (hq : ∀ i j : Int, -1 ≤ i → i < j → j < many → callN P W N 34 [.val F, .val (.int i), .val (.int j), .val (.int w)] = .ok false (.bool (q i j)) []) (hm : many ≤ 100) (ws : Ws) (last : Nat) (hl : last < many) (hI : Iw q ws last) (s4 : Sl) (h4 : Free s4) :
    ((asn (.n 4 false) (.d (.int last)) [.val F, .val (.int many), .val (.int w), .own (.list ((ws.map (·.1)).map PyData.int)), s4, .un]).bind fun _ r3 => evB (callN P W N) W f36_b0 r3) = .ok .nx [.val F, .val (.int many), .val (.int w), .own (.list (((stepW q ws last).map (·.1)).map PyData.int)), .val (.int last), .un] := by
  have hn := hI.num
  have ec := comp40 q many hq hm (ws.map (·.1)) last hl (fun k hk => by
    obtain ⟨p, hp, rfl⟩ := List.mem_map.mp hk
    exact hI.keys p hp) (by rw [List.length_map]; omega)
  have en := ne_ints ((ws.map (·.1)).filter fun k => q k last)
  rw [firsts_iff q hI] at en
  have eb : f36_b0 = (.cons (.ifs (.cmp .ne f36_c0 (.lst .nil)) (.cons (.app 3 (.var 4)) .nil) .nil) .nil) := rfl
  rw [eb, keys_step]
  by_cases hf : firstsM q ws last ≠ []
  · rw [decide_eq_true hf] at en
    rw [if_pos hf, List.map_append]
    have hz : ((ws.map (·.1)).map PyData.int).length < 16777216 := by rw [List.length_map, List.length_map]; omega
    simp! [ec, en, sto_free h4, hz]
    rfl
  · rw [decide_eq_false hf] at en
    rw [if_neg hf]
    simp! [ec, en, sto_free h4]
end
end K65

end
section
set_option maxRecDepth 100000
local macro_rules | `(tactic| simp! [$ts,*]) => `(tactic| simp only [Ev.bind_ok', Ev.bind_stuck', Ev.bind_ite, Ev.of_some', Ev.of_none', Ev.of_ite, Ev.slD_val, Ev.slD_own, Ev.slD_bor, Ev.deref_d, Ev.deref_f, Ev.deref_s, Ev.tru_eq, Ev.truS_some, Ev.truth_bool, Ev.truth_int, Ev.truth_list, Ev.truth_tuple, Ev.un1S_some, Ev.bi2S_some, Ev.andK_b, Ev.orK_b, Ev.negK_i, Ev.varK_val, Ev.varK_own, Ev.varK_bor, Ev.solS_val, Ev.solS_own, Ev.sol_d, Ev.sol_f, Ev.sol_s, Ev.muS_own, Ev.muS_bor, Ev.mutAt_eq, Ev.bop_add, Ev.bop_sub, Ev.bop_mul, Ev.bop_div, Ev.bop_mod, Ev.bop_tup, Ev.bop_lst, Ev.cop_lt, Ev.cop_le, Ev.cop_gt, Ev.cop_ge, Ev.cop_eqi, Ev.cop_eqs, Ev.cop_nei, Ev.cop_nes, Ev.cop_is, Ev.cop_isNot, Ev.cop_in, Ev.is_bb, Ev.e_none, Ev.e_bool, Ev.e_int, Ev.e_str, Ev.e_var, Ev.e_glob, Ev.e_bin, Ev.e_neg, Ev.e_cmp, Ev.chnS_some, Ev.e_chn, Ev.e_not, Ev.e_and, Ev.e_or, Ev.e_ife, Ev.e_tup, Ev.e_lst, Ev.e_idx, Ev.e_isi, Ev.e_bl1, Ev.e_bl2, Ev.callK_v, Ev.callK_f, Ev.callK_v1, Ev.callK_f1, Ev.callK_v2, Ev.argK_some, Ev.e_call, Ev.argsS_nil, Ev.argsS_v, Ev.argsS_l, Ev.lends_nil, Ev.lends_v, Ev.lends_l, Ev.a_nil, Ev.a_cons, Ev.r_nil, Ev.r_cons, Ev.lendK_some, Ev.r_lend, Ev.o_no, Ev.derK_some, Ev.o_yes, Ev.t_no, Ev.t_yes, Ev.i_val, Ev.slS_some, Ev.e_slc, Ev.opt_none, Ev.opt_int, Ev.slice_list, Ev.slice_tup, Ev.e_dsp, Ev.dicS_some, Ev.e_mg2, Ev.rgK_i, Ev.i_rg1, Ev.rgK2_i, Ev.i_rg2, Ev.enK_some, Ev.i_enm, Ev.zpK_some, Ev.i_zip, Ev.c_cst, Ev.c_var, Ev.c_cmp, Ev.c_chn, Ev.c_isi, Ev.c_call, Ev.c_bl1, Ev.c_not, Ev.c_and, Ev.c_or, Ev.c_ife, Ev.seqK_nx, Ev.seqK_brk, Ev.seqK_cnt, Ev.seqK_ret, Ev.seqK_exc, Ev.seqK_stuck, Ev.seqK_ite, Ev.b_nil, Ev.b_cons, Ev.retK_d, Ev.retK_f, Ev.s_ret, Ev.s_retN, Ev.s_asg, Ev.s_ex, Ev.s_if, Ev.s_for, Ev.s_whl, Ev.s_pas, Ev.s_rse, Ev.stoK_un, Ev.stoK_val, Ev.stoK_own, Ev.asn_d, Ev.asn_f, Ev.asn_fo, Ev.asn_t, Ev.asnL_nil, Ev.asnL_cons, Ev.asnP_nil, Ev.asnP_cons, Ev.s_asp, Ev.fK_f, Ev.fK_d, Ev.fK_s, Ev.f_nil, Ev.f_cons, Ev.lendF_some, Ev.setS_own, Ev.setS_bor, Ev.setAt_eq, Ev.ixK_some, Ev.setK_l, Ev.s_sto, Ev.outs_nil, Ev.outs_v, Ev.outs_b, Ev.endK_nx, Ev.endK_ret, Ev.endK_exc, Ev.endK_stuck, Ev.endK_ite, Ev.endS_some, Ev.endCall_eq, Ev.e_emp, Ev.e_din, Ev.e_dix, Ev.sdkS_some, Ev.e_sdk, Ev.e_tin, Ev.e_tix, Ev.e_tg1, Ev.e_tg2, Ev.e_sdt, Ev.c_din, Ev.c_tin, Ev.s_dst, Ev.s_tst, Ev.isN_none, Ev.isN_bool, Ev.isN_int, Ev.isN_str, Ev.isN_list, Ev.isN_tup, Ev.isN_dict, Ev.e_mg1, Ev.appL_l, Ev.appK_l, Ev.s_app, Ev.nd_none, Ev.ty_int_none, Ev.ty_bool_none, Ev.ty_str_none, Ev.ty_tuple_none, Ev.ty_list_none, Ev.nd_bool, Ev.ty_int_bool, Ev.ty_bool_bool, Ev.ty_str_bool, Ev.ty_tuple_bool, Ev.ty_list_bool, Ev.nd_int, Ev.ty_int_int, Ev.ty_bool_int, Ev.ty_str_int, Ev.ty_tuple_int, Ev.ty_list_int, Ev.nd_str, Ev.ty_int_str, Ev.ty_bool_str, Ev.ty_str_str, Ev.ty_tuple_str, Ev.ty_list_str, Ev.nd_list, Ev.ty_int_list, Ev.ty_bool_list, Ev.ty_str_list, Ev.ty_tuple_list, Ev.ty_list_list, Ev.nd_tup, Ev.ty_int_tup, Ev.ty_bool_tup, Ev.ty_str_tup, Ev.ty_tuple_tup, Ev.ty_list_tup, Ev.nd_dict, Ev.ty_int_dict, Ev.ty_bool_dict, Ev.ty_str_dict, Ev.ty_tuple_dict, Ev.ty_list_dict, List.getElem?_cons_zero, List.getElem?_cons_succ, List.getElem?_nil, List.set_cons_zero, List.set_cons_succ, List.length_cons, List.length_nil, List.replicate_succ, List.replicate_zero, List.cons_append, List.nil_append, List.append_nil, List.nodup_nil, List.nodup_cons, List.mem_cons, List.not_mem_nil, List.isEmpty_nil, List.isEmpty_cons, Option.map_some, Option.map_none, Option.bind_some, Option.bind_none, Option.getD_some, Option.getD_none, Option.isSome_some, Option.isSome_none, Option.isNone_some, Option.isNone_none, ite_true, ite_false, if_true, if_false, decide_true, decide_false, decide_eq_true_eq, Bool.not_true, Bool.not_false, Bool.not_not, Bool.true_and, Bool.false_and, Bool.and_true, Bool.and_false, Bool.or_true, Bool.or_false, Bool.true_or, Bool.false_or, Bool.not_eq_true, Bool.not_eq_true', Bool.and_self, Bool.or_self, Bool.false_eq_true, reduceCtorEq, not_true_eq_false, not_false_eq_true, or_false, false_or, or_true, true_or, and_true, true_and, and_false, false_and, eq_self, bne_self_eq_false, Nat.reduceAdd, Nat.reduceSub, Nat.reduceLeDiff, Nat.reduceLT, Nat.reduceEqDiff, Nat.zero_add, Nat.reduceMul, Int.reduceNeg, Int.reduceAdd, Int.reduceSub, Int.reduceMul, Int.reduceLT, Int.reduceLE, Int.reduceEq, Int.reduceDiv, Int.reduceMod, Int.reduceToNat, Int.reducePow, Nat.succ_ne_zero, Nat.add_eq_zero_iff, Nat.le_refl, Nat.one_ne_zero, ↓reduceIte, Ev.SZ, $ts,*])
set_option linter.all false
set_option maxRecDepth 100000
set_option maxHeartbeats 4000000
/-! The law's word on lines. -/
namespace K65
open PySem Ev
section
variable (q : Int → Int → Bool) (many : Nat) {N : Nat} {F : D} {w : Int}
def kD (ws : Ws) : D := .list ((ws.map (·.1)).map PyData.int)
theorem loop40 (hq : ∀ i j : Int, -1 ≤ i → i < j → j < many → callN P W N 34 [.val F, .val (.int i), .val (.int j), .val (.int w)] = .ok false (.bool (q i j)) []) (hm : many ≤ 100) :
    ∀ (n k : Nat) (s4 : Sl), k + n = many → Free s4 → ∃ t4, forL (fun x r2 => (asn (.n 4 false) (.d x) r2).bind fun _ r3 => evB (callN P W N) W f36_b0 r3) ((inR k n).map PyData.int) [.val F, .val (.int many), .val (.int w), .own (kD (waysM q k)), s4, .un] = .ok .nx [.val F, .val (.int many), .val (.int w), .own (kD (waysM q many)), t4, .un]
  | 0, k, s4, hk, h4 => by
    rw [show k = many by omega]
    exact ⟨s4, rfl⟩
  | n + 1, k, s4, hk, h4 => by
    have e := body40 q many hq hm (waysM q k) k (by omega) (iw_all q k) s4 h4
    obtain ⟨t4, e2⟩ := loop40 hq hm n (k + 1) (.val (.int k)) (by omega) (.inr ⟨_, rfl⟩)
    refine ⟨t4, ?_⟩
    rw [inR_cons, List.map_cons, for_nx e]
    exact e2
theorem el40 (hm : many ≤ 100) : evS (callN P W N) W f36_l0 [.val F, .val (.int many), .val (.int w), .own (kD [(-1, [])]), .un, .un] = forL (fun x r2 => (asn (.n 4 false) (.d x) r2).bind fun _ r3 => evB (callN P W N) W f36_b0 r3) ((inR 0 many).map PyData.int) [.val F, .val (.int many), .val (.int w), .own (kD [(-1, [])]), .un, .un] := by
  have ei : evI (callN P W N) (.rg1 (.var 1)) [.val F, .val (.int many), .val (.int w), .own (kD [(-1, [])]), .un, .un] = _ := rg1_inN (n := many) (r' := [.val F, .val (.int many), .val (.int w), .own (kD [(-1, [])]), .un, .un]) (by simp! []) (by omega)
  rw [show f36_l0 = IS.fr (.n 4 false) (.rg1 (.var 1)) f36_b0 from rfl, s_for, ei, bind_ok']
theorem en40 (call : Nat → List Sl → CR) (Z : IS) (F w : D) (m : Int) (K K0 : D) (b : Bool) (t4 : Sl) (hK0 : K0 = .list [.int (-1)]) (el : evS call W Z [.val F, .val (.int m), .val w, .own K0, .un, .un] = .ok .nx [.val F, .val (.int m), .val w, .own K, t4, .un]) (hb : inOf (.int (m - 1)) K = some b) :
    endK [.val F, .val (.int m), .val w] (evB call W (.cons (.asg (.n 3 true) (.lst (.cons (.neg (.cst (.int 1))) .nil))) (.cons Z (.cons (.ret (.cmp .inn (.bin .sub (.var 1) (.cst (.int 1))) (.var 3))) .nil))) ([.val F, .val (.int m), .val w] ++ List.replicate (f36.names.length - f36.np) .un)) = .ok false (.bool b) [] := by
  subst hK0
  simp! [f36, el, hb]
theorem in_list (l : List Int) (i : Int) : inOf (.int i) (.list (l.map PyData.int)) = some (decide (i ∈ l)) := by
  have h : (l.map PyData.int).all flat = true := by
    rw [List.all_eq_true]
    intro x hx
    obtain ⟨j, _, rfl⟩ := List.mem_map.mp hx
    rfl
  show (if (flat (.int i) && (l.map PyData.int).all flat) = true then some ((l.map PyData.int).any fun y => PyData.eqv y (.int i)) else _) = _
  rw [h, if_pos (by rfl)]
  congr 1
  rw [Bool.eq_iff_iff, List.any_eq_true, decide_eq_true_iff]
  constructor
  · rintro ⟨x, hx, e⟩
    obtain ⟨j, hj, rfl⟩ := List.mem_map.mp hx
    have : j = i := by simpa [PyData.eqv] using e
    exact this ▸ hj
  · intro hi
    exact ⟨_, List.mem_map.mpr ⟨i, hi, rfl⟩, by simp [PyData.eqv]⟩
theorem can40 (hq : ∀ i j : Int, -1 ≤ i → i < j → j < many → callN P W N 34 [.val F, .val (.int i), .val (.int j), .val (.int w)] = .ok false (.bool (q i j)) []) (hm : many ≤ 100) :
    callN P W (N + 1) 36 [.val F, .val (.int many), .val (.int w)] = .ok false (.bool (lookW (waysM q many) ((many : Int) - 1)).isSome) [] := by
  obtain ⟨t4, e⟩ := loop40 q many hq hm many 0 .un (by omega) (.inl rfl)
  rw [step (df := f36) rfl rfl]
  rw [lookW_some]
  exact en40 _ f36_l0 _ _ _ _ _ _ _ rfl ((el40 many hm).trans e) (in_list _ _)
theorem idx_lastT (l : List D) (x : D) : idx (.tuple (l ++ [x])) (.int (-1)) = some x := by
  have h : ¬ (0 : Int) ≤ -1 := by decide
  have h2 : -((l.length : Int) + 1) ≤ -1 := by omega
  have h3 : ((-1 : Int) + ((l.length : Int) + 1)).toNat = l.length := by omega
  simp [idx, atI, Ev.ixN, h2, h3]
theorem path_last : ∀ (v : List Int) (h k : Int), pathTo q h v k → h < k → ∃ t, v = t ++ [k]
  | [], h, k, hp, hk => by have hp : h = k := hp; omega
  | [x], h, k, hp, hk => ⟨[], by rw [show x = k from hp.2.2]; rfl⟩
  | x :: y :: v, h, k, hp, hk => by
    have hp2 := hp.2.2
    have hxk : ∀ (l : List Int) (x : Int), pathTo q x l k → x ≤ k := fun l => by
      induction l with
      | nil => intro x hx; exact Int.le_of_eq hx
      | cons y l ih => intro x hx; have := ih y hx.2.2; have := hx.1; omega
    obtain ⟨t, ht⟩ := path_last (y :: v) x k hp2 (by have := hp2.1; have := hxk v y hp2.2.2; omega)
    exact ⟨x :: t, by rw [ht]; rfl⟩
theorem eq_tnil (l : List Int) : cop .eq (.tuple (l.map PyData.int)) (.tuple []) = some (decide (l = [])) := by
  have := lay_ints l
  rw [cop_eqD (eqOk_shaped (shaped_tup this.1 (by omega)) (by decide))]
  cases l <;> rfl
end
end K65

end
section
set_option linter.all false
set_option maxRecDepth 100000
set_option maxHeartbeats 4000000
/-! What is a strip. -/
namespace K65
open PySem Ev
theorem whole0 {N : Nat} (hN : 1 ≤ N) (i lo hi : Int) (h1 : lo ≤ i) (h2 : i ≤ hi) : callN P W N 0 [.val (.int i), .val (.int lo), .val (.int hi)] = .ok false (.bool true) [] := by
  obtain ⟨M, rfl⟩ : ∃ M, N = M + 1 := ⟨N - 1, by omega⟩
  rw [step (df := f0) rfl rfl]
  simp [f0, notDict, isTy, h1, h2, chn_leT]
theorem row1 {N : Nat} (hN : 1 ≤ N) (l : List D) (lo hi : Int) (h1 : lo ≤ l.length) (h2 : l.length ≤ hi) : callN P W N 1 [.val (.tuple l), .val (.int lo), .val (.int hi)] = .ok false (.bool true) [] := by
  obtain ⟨M, rfl⟩ : ∃ M, N = M + 1 := ⟨N - 1, by omega⟩
  rw [step (df := f1) rfl rfl]
  simp [f1, notDict, isTy, h1, h2, chn_leT, len_tupD]
theorem sign2 {N : Nat} (hN : 1 ≤ N) (s : Str) (h : s ∈ (["a", "b", "c", "x", " "] : List Str)) : callN P W N 2 [.val (.str s)] = .ok false (.bool true) [] := by
  obtain ⟨M, rfl⟩ : ∃ M, N = M + 1 := ⟨N - 1, by omega⟩
  simp only [List.mem_cons, List.not_mem_nil, or_false] at h
  rcases h with rfl | rfl | rfl | rfl | rfl <;> kernel_rfl
theorem in_kern : inOf (.str "kern") (.tuple [.str "kern", .str "place"]) = some true := by kernel_rfl
theorem in_place : inOf (.str "place") (.tuple [.str "kern", .str "place"]) = some true := by kernel_rfl
theorem in_box : inOf (.str "box") (.tuple [.str "kern", .str "place"]) = some false := by kernel_rfl
theorem all_true {α : Type} : ∀ l : List α, b1 .all (.list (l.map fun _ => .bool true)) = some (.d (.bool true)) := by
  have h : ∀ l : List α, boolsL (l.map fun _ => PyData.bool true) = some (l.map fun _ => true) := fun l => by
    induction l with
    | nil => rfl
    | cons a l ih =>
      show (boolsL (l.map fun _ => PyData.bool true)).map (true :: ·) = _
      rw [ih]
      rfl
  intro l
  show (boolsL _).map _ = _
  rw [h]
  have : (l.map fun _ => true).all id = true := by simp
  simp [this]
theorem thing3 {N : Nat} (hN : 2 ≤ N) (t : Th) {d : Nat} (h : wf t d) : callN P W N 3 [.val (enc t)] = .ok false (.bool true) [] := by
  obtain ⟨M, rfl⟩ : ∃ M, N = M + 1 := ⟨N - 1, by omega⟩
  have r1 : ∀ l : List D, 2 ≤ l.length → l.length ≤ 6 → callN P W M 1 [.val (.tuple l), .val (.int 2), .val (.int 6)] = .ok false (.bool true) [] := fun l h1 h2 => row1 (by omega) l 2 6 (by omega) (by omega)
  have w0 := fun i lo hi h1 h2 => whole0 (N := M) (by omega) i lo hi h1 h2
  rw [step (df := f3) rfl rfl]
  cases t with
  | sign s =>
    have e1 := r1 [.str "sign", .str s] (by simp) (by simp)
    have e2 := sign2 (N := M) (by omega) s h
    simp [f3, enc, e1, e2, idx0, idx1, notDict, isTy, len_tupD]
  | kern n =>
    have e1 := r1 [.str "kern", .int n] (by simp) (by simp)
    have e2 := w0 n (-1000000) 1000000 (by have := h.1; omega) (by have := h.2; omega)
    simp [f3, enc, e1, e2, idx0, idx1, notDict, isTy, len_tupD, in_kern, SZ]
  | place n =>
    have e1 := r1 [.str "place", .int n] (by simp) (by simp)
    have e2 := w0 n (-10000) 10000 (by have := h.1; omega) (by have := h.2; omega)
    simp [f3, enc, e1, e2, idx0, idx1, notDict, isTy, len_tupD, in_place, SZ]
  | box l =>
    have e1 := r1 [.str "box", .tuple (encs l)] (by simp) (by simp)
    simp [f3, enc, e1, idx0, idx1, notDict, isTy, len_tupD, in_box, SZ]
  | space w a o b p =>
    obtain ⟨⟨h1, h2⟩, ⟨h3, h4⟩, ⟨h5, h6⟩, ⟨h7, h8⟩, h9, h10⟩ := h
    have e1 := r1 [.str "space", .int w, .int a, .int o, .int b, .int p] (by simp) (by simp)
    have e2 := w0 w (-1000000) 1000000 (by omega) (by omega)
    have i2 : idx (.tuple [.str "space", .int w, .int a, .int o, .int b, .int p]) (.int 2) = some (.int a) := rfl
    have i3 : idx (.tuple [.str "space", .int w, .int a, .int o, .int b, .int p]) (.int 3) = some (.int o) := rfl
    have i4 : idx (.tuple [.str "space", .int w, .int a, .int o, .int b, .int p]) (.int 4) = some (.int b) := rfl
    have i5 : idx (.tuple [.str "space", .int w, .int a, .int o, .int b, .int p]) (.int 5) = some (.int p) := rfl
    have c2 := w0 a 0 100 (by omega) (by omega)
    have c3 := w0 o 0 2 (by omega) (by omega)
    have c4 := w0 b 0 100 (by omega) (by omega)
    have c5 := w0 p 0 2 (by omega) (by omega)
    have e3 : (ev (callN P W M) f3_c0).1 [.val (.tuple [.str "space", .int w, .int a, .int o, .int b, .int p]), .un] = .ok (.f (.list (([2, 4] : List Int).map fun _ => .bool true))) [.val (.tuple [.str "space", .int w, .int a, .int o, .int b, .int p]), .un] := by
      refine e_map (xs := ([2, 4] : List Int)) (en := PyData.int) (fun _ => .bool true) (by simp [itemsOf, SZ]) (fun i hi => ?_) (by decide)
      simp only [List.mem_cons, List.not_mem_nil, or_false] at hi
      rcases hi with rfl | rfl
      · exact ⟨_, by simp [item, wipeE, i2, i3, c2, c3]; rfl, by simp [wipeE]⟩
      · exact ⟨_, by simp [item, wipeE, i4, i5, c4, c5]; rfl, by simp [wipeE]⟩
    have e4 := all_true ([2, 4] : List Int)
    obtain ⟨xs, hx⟩ : ∃ xs, xs = ([2, 4] : List Int).map fun _ => PyData.bool true := ⟨_, rfl⟩
    rw [← hx] at e3 e4
    simp [f3, enc, e1, e2, idx0, idx1, notDict, isTy, len_tupD, e3, e4]
end K65

end
section
set_option linter.all false
set_option maxRecDepth 100000
set_option maxHeartbeats 4000000
/-! The spaces within. -/
namespace K65
open PySem Ev
abbrev St := List Th × Nat
def stD (s : St) : D := .tuple [.tuple (encs s.1), .int s.2]
def tot : List St → Nat
  | [] => 0
  | s :: r => cnts s.1 + tot r
theorem tot_app : ∀ a b : List St, tot (a ++ b) = tot a + tot b
  | [], b => by rw [List.nil_append]; show _ = 0 + _; omega
  | s :: a, b => by
    show cnts s.1 + tot (a ++ b) = cnts s.1 + tot a + tot b
    rw [tot_app a b]
    omega
def isBox : Th → Bool
  | .box _ => true
  | _ => false
def inn : Th → List Th
  | .box k => k
  | _ => []
def bxs (l : List Th) (p : Nat) : List St := (l.filter isBox).map fun t => (inn t, p + 1)
theorem bxs_tot (p : Nat) : ∀ l : List Th, tot (bxs l p) + l.length = cnts l
  | [] => rfl
  | t :: l => by
    have ih := bxs_tot p l
    have hc : cnts (t :: l) = cnt t + cnts l := rfl
    rw [hc, List.length_cons]
    cases t with
    | box k =>
      have e : bxs (.box k :: l) p = (k, p + 1) :: bxs l p := rfl
      have e2 : tot ((k, p + 1) :: bxs l p) = cnts k + tot (bxs l p) := rfl
      have e3 : cnt (.box k) = cnts k + 1 := rfl
      rw [e, e2]
      omega
    | sign s => (have e : bxs (.sign s :: l) p = bxs l p := rfl); (have e3 : cnt (.sign s) = 1 := rfl); rw [e]; omega
    | kern s => (have e : bxs (.kern s :: l) p = bxs l p := rfl); (have e3 : cnt (.kern s) = 1 := rfl); rw [e]; omega
    | place s => (have e : bxs (.place s :: l) p = bxs l p := rfl); (have e3 : cnt (.place s) = 1 := rfl); rw [e]; omega
    | space a b c d f => (have e : bxs (.space a b c d f :: l) p = bxs l p := rfl); (have e3 : cnt (.space a b c d f) = 1 := rfl); rw [e]; omega
theorem bxs_len (l : List Th) (p : Nat) : (bxs l p).length ≤ l.length := by
  unfold bxs
  rw [List.length_map]
  exact List.length_filter_le _ _
mutual
def spc : Th → Nat
  | .space _ _ _ _ _ => 1
  | .box l => spcs l
  | _ => 0
def spcs : List Th → Nat
  | [] => 0
  | t :: l => spc t + spcs l
end
def spt : List St → Nat
  | [] => 0
  | s :: r => spcs s.1 + spt r
theorem spt_app : ∀ a b : List St, spt (a ++ b) = spt a + spt b
  | [], b => by rw [List.nil_append]; show _ = 0 + _; omega
  | s :: a, b => by
    show spcs s.1 + spt (a ++ b) = spcs s.1 + spt a + spt b
    rw [spt_app a b]
    omega
theorem bxs_spt (p : Nat) : ∀ l : List Th, spt (bxs l p) + (l.filter isSp).length = spcs l
  | [] => rfl
  | t :: l => by
    have ih := bxs_spt p l
    have hc : spcs (t :: l) = spc t + spcs l := rfl
    rw [hc]
    cases t with
    | box k =>
      have e : bxs (.box k :: l) p = (k, p + 1) :: bxs l p := rfl
      have e2 : spt ((k, p + 1) :: bxs l p) = spcs k + spt (bxs l p) := rfl
      have e3 : spc (.box k) = spcs k := rfl
      have e4 : (Th.box k :: l).filter isSp = l.filter isSp := rfl
      rw [e, e2, e4]
      omega
    | sign s => (have e : bxs (.sign s :: l) p = bxs l p := rfl); (have e3 : spc (.sign s) = 0 := rfl); (have e4 : (Th.sign s :: l).filter isSp = l.filter isSp := rfl); rw [e, e4]; omega
    | kern s => (have e : bxs (.kern s :: l) p = bxs l p := rfl); (have e3 : spc (.kern s) = 0 := rfl); (have e4 : (Th.kern s :: l).filter isSp = l.filter isSp := rfl); rw [e, e4]; omega
    | place s => (have e : bxs (.place s :: l) p = bxs l p := rfl); (have e3 : spc (.place s) = 0 := rfl); (have e4 : (Th.place s :: l).filter isSp = l.filter isSp := rfl); rw [e, e4]; omega
    | space a b c d f => (have e : bxs (.space a b c d f :: l) p = bxs l p := rfl); (have e3 : spc (.space a b c d f) = 1 := rfl); (have e4 : (Th.space a b c d f :: l).filter isSp = .space a b c d f :: l.filter isSp := rfl); rw [e, e4, List.length_cons]; omega
def GoodSt (s : St) : Prop := ∃ d, wfs s.1 d ∧ d + s.2 ≤ 2
theorem bxs_good {l : List Th} {p : Nat} (h : GoodSt (l, p)) : ∀ s ∈ bxs l p, GoodSt s := by
  obtain ⟨d, h1, h2⟩ := h
  intro s hs
  obtain ⟨t, ht, rfl⟩ := List.mem_map.mp hs
  obtain ⟨ht1, ht2⟩ := List.mem_filter.mp ht
  have hw := wfs_le l d h1 t ht1
  have h2' : d + p ≤ 2 := h2
  cases t with
  | box k =>
    obtain ⟨g1, g2⟩ := hw
    exact ⟨d - 1, g2, by show d - 1 + (p + 1) ≤ 2; omega⟩
  | _ => exact nomatch ht2
theorem lay_st : ∀ st : List St, (∀ s ∈ st, GoodSt s) → PyData.canLayAll0 (st.map stD) = true ∧ PyData.depthAll (st.map stD) ≤ 20
  | [], _ => ⟨rfl, Nat.zero_le _⟩
  | s :: st, h => by
    obtain ⟨b1, b2⟩ := lay_st st fun x hx => h x (List.mem_cons_of_mem _ hx)
    obtain ⟨d, h1, h2⟩ := h s List.mem_cons_self
    obtain ⟨a1, a2⟩ := lay_l s.1 d h1
    refine ⟨?_, ?_⟩
    · show ((stD s).canLay0 && PyData.canLayAll0 (st.map stD)) = true
      rw [b1, Bool.and_true]
      simp [stD, PyData.canLay0, PyData.canLayAll0, a1]
    · show max (PyData.depth (stD s)) (PyData.depthAll (st.map stD)) ≤ _
      have : PyData.depth (stD s) ≤ 20 := by
        simp [stD, PyData.depth, PyData.depthAll]
        omega
      omega
theorem cut_pop (l : List D) (x : D) : cut (l ++ [x]) none (some (-1)) = l := by
  have h : (-1 + ((l.length : Int) + 1)).toNat = l.length := by omega
  simp [cut, sIx, h]
theorem fits4 {N : Nat} (hN : 2 ≤ N) (l : List Th) {d : Nat} (hw : wfs l d) (hc : cnts l ≤ 100) (s0 s1 s2 s3 s5 s6 : Sl) : (ev (callN P W N) f4_c2).1 [s0, s1, s2, s3, .val (.tuple (encs l)), s5, s6, .un] = .ok (.f (.list (l.map fun _ => .bool true))) [s0, s1, s2, s3, .val (.tuple (encs l)), s5, s6, .un] := by
  refine e_map (xs := l) (en := enc) (fun _ => .bool true) (by simp [itemsOf, encs_map]) (fun t ht => ?_) (len_small hc)
  have e1 := thing3 hN t (wfs_le l d hw t ht)
  exact ⟨_, by simp [item, wipeE, e1]; rfl, by simp [wipeE]⟩
theorem boxes4 (N : Nat) (l : List Th) (hc : cnts l ≤ 100) (s0 s1 s2 s3 s6 : Sl) (p : Nat) : (ev (callN P W N) f4_c1).1 [s0, s1, s2, s3, .val (.tuple (encs l)), .val (.int p), s6, .un] = .ok (.f (.list ((bxs l p).map stD))) [s0, s1, s2, s3, .val (.tuple (encs l)), .val (.int p), s6, .un] := by
  have e : (ev (callN P W N) f4_c1).1 [s0, s1, s2, s3, .val (.tuple (encs l)), .val (.int p), s6, .un] = .ok (.f (.list ((l.filter isBox).map fun t => stD (inn t, p + 1)))) [s0, s1, s2, s3, .val (.tuple (encs l)), .val (.int p), s6, .un] := by
    refine e_filter (xs := l) (en := enc) isBox (fun t => stD (inn t, p + 1)) (by simp [itemsOf, encs_map]) (fun t ht => ?_) (len_small hc)
    cases t with
    | sign s => exact ⟨_, by simp [item, wipeE, enc, idx0, isBox]; rfl, by simp [wipeE]⟩
    | kern n => exact ⟨_, by simp [item, wipeE, enc, idx0, isBox]; rfl, by simp [wipeE]⟩
    | place n => exact ⟨_, by simp [item, wipeE, enc, idx0, isBox]; rfl, by simp [wipeE]⟩
    | space w a o b p => exact ⟨_, by simp [item, wipeE, enc, idx0, isBox]; rfl, by simp [wipeE]⟩
    | box k => exact ⟨_, by simp [item, wipeE, enc, idx0, idx1, isBox, inn, stD, SZ]; rfl, by simp [wipeE]⟩
  unfold bxs
  rw [List.map_map]
  exact e
theorem spaces4 (N : Nat) (l : List Th) (hc : cnts l ≤ 100) (s0 s1 s2 s3 s5 s6 : Sl) : (ev (callN P W N) f4_c0).1 [s0, s1, s2, s3, .val (.tuple (encs l)), s5, s6, .un] = .ok (.f (.list ((l.filter isSp).map enc))) [s0, s1, s2, s3, .val (.tuple (encs l)), s5, s6, .un] := by
  refine e_filter (xs := l) (en := enc) isSp enc (by simp [itemsOf, encs_map]) (fun t ht => ?_) (len_small hc)
  cases t with
  | sign s => exact ⟨_, by simp [item, wipeE, enc, idx0, isSp]; rfl, by simp [wipeE]⟩
  | kern n => exact ⟨_, by simp [item, wipeE, enc, idx0, isSp]; rfl, by simp [wipeE]⟩
  | place n => exact ⟨_, by simp [item, wipeE, enc, idx0, isSp]; rfl, by simp [wipeE]⟩
  | space w a o b p => exact ⟨_, by simp [item, wipeE, enc, idx0, isSp]; rfl, by simp [wipeE]⟩
  | box k => exact ⟨_, by simp [item, wipeE, enc, idx0, isSp]; rfl, by simp [wipeE]⟩
theorem turn4 {N : Nat} (hN : 2 ≤ N) (v : D) (st : List St) (l : List Th) (p : Nat) (c : Nat) (fs : List Th) (s4 s5 s6 : Sl) (h4 : Free s4) (h5 : Free s5) (h6 : Free s6) (hg : GoodSt (l, p)) (hb : c + cnts l ≤ 60) (hst : st.length ≤ 100) (hf : fs.length ≤ 100) :
    evB (callN P W N) W f4_b0 [.val v, .val (.list ((st ++ [(l, p)]).map stD)), .val (.int c), .val (.list (fs.map enc)), s4, s5, s6, .un] =
      .ok .nx [.val v, .val (.list ((st ++ bxs l p).map stD)), .val (.int ((c + l.length : Nat) : Int)), .val (.list ((fs ++ l.filter isSp).map enc)), .val (.tuple (encs l)), .val (.int p), .val (.list ((bxs l p).map stD)), .un] := by
  obtain ⟨d, h1, h2⟩ := id hg
  have h2' : d + p ≤ 2 := h2
  have h1' : wfs l d := h1
  have hl := len_cnts l
  have e1 : idx (.list ((st ++ [(l, p)]).map stD)) (.int (-1)) = some (.tuple [.tuple (encs l), .int p]) := by
    rw [List.map_append]
    exact idx_lastD _ _
  have e2 : cut ((st ++ [(l, p)]).map stD) none (some (-1)) = st.map stD := by
    rw [List.map_append]
    exact cut_pop _ _
  have e3 := fun s0 s1 s2 s3 s5 s6 => fits4 hN l h1' (by omega) s0 s1 s2 s3 s5 s6
  have e4 := fun s0 s1 s2 s3 s6 => boxes4 N l (by omega) s0 s1 s2 s3 s6 p
  have e5 := fun s0 s1 s2 s3 s5 s6 => spaces4 N l (by omega) s0 s1 s2 s3 s5 s6
  have e6 := all_true l
  have e7 := lay_st (bxs l p) (bxs_good hg)
  have e8 := ne_lnil e7.1 (by omega)
  have bl := bxs_len l p
  have e9 : bop .add (.list (st.map stD)) (.list ((bxs l p).map stD)) = some (.f (.list ((st ++ bxs l p).map stD))) := by
    rw [bop_lst, List.map_append]
    refine if_pos ?_
    rw [List.length_map, List.length_map]
    show _ ≤ 16777216
    omega
  have e10 : bop .add (.list (fs.map enc)) (.list ((l.filter isSp).map enc)) = some (.f (.list ((fs ++ l.filter isSp).map enc))) := by
    rw [bop_lst, List.map_append]
    refine if_pos ?_
    have := List.length_filter_le isSp l
    rw [List.length_map, List.length_map]
    show _ ≤ 16777216
    omega
  have n1 : ¬ (60 : Int) < (c : Int) + (l.length : Int) := by omega
  have n2 : ¬ (5 : Int) < (p : Int) := by omega
  obtain ⟨L, hL⟩ : ∃ L, L = (st ++ [(l, p)]).map stD := ⟨_, rfl⟩
  obtain ⟨S, hS⟩ : ∃ S, S = st.map stD := ⟨_, rfl⟩
  obtain ⟨B, hB⟩ : ∃ B, B = (bxs l p).map stD := ⟨_, rfl⟩
  obtain ⟨SB, hSB⟩ : ∃ SB, SB = (st ++ bxs l p).map stD := ⟨_, rfl⟩
  obtain ⟨F, hF⟩ : ∃ F, F = fs.map enc := ⟨_, rfl⟩
  obtain ⟨G, hG⟩ : ∃ G, G = (l.filter isSp).map enc := ⟨_, rfl⟩
  obtain ⟨FG, hFG⟩ : ∃ FG, FG = (fs ++ l.filter isSp).map enc := ⟨_, rfl⟩
  obtain ⟨A, hA⟩ : ∃ A, A = l.map fun _ => PyData.bool true := ⟨_, rfl⟩
  simp only [← hL, ← hS, ← hB, ← hSB, ← hF, ← hG, ← hFG, ← hA] at e1 e2 e3 e4 e5 e6 e8 e9 e10 ⊢
  by_cases hB0 : B = []
  · have e8' : cop .ne (.list B) (.list []) = some false := by rw [e8, hB0]; rfl
    simp [f4_b0, e1, e2, e3, e4, e5, e6, e8', e9, e10, n1, n2, sto_free h4, sto_free h5, sto_free h6, notDict, isTy, len_tupD, encs_len, SZ]
  · have e8' : cop .ne (.list B) (.list []) = some true := by rw [e8]; simp [hB0]
    simp [f4_b0, e1, e2, e3, e4, e5, e6, e8', e9, e10, n1, n2, sto_free h4, sto_free h5, sto_free h6, notDict, isTy, len_tupD, encs_len, SZ]
end K65

end
section
set_option maxRecDepth 100000
local macro_rules | `(tactic| simp! [$ts,*]) => `(tactic| simp only [Ev.bind_ok', Ev.bind_stuck', Ev.bind_ite, Ev.of_some', Ev.of_none', Ev.of_ite, Ev.slD_val, Ev.slD_own, Ev.slD_bor, Ev.deref_d, Ev.deref_f, Ev.deref_s, Ev.tru_eq, Ev.truS_some, Ev.truth_bool, Ev.truth_int, Ev.truth_list, Ev.truth_tuple, Ev.un1S_some, Ev.bi2S_some, Ev.andK_b, Ev.orK_b, Ev.negK_i, Ev.varK_val, Ev.varK_own, Ev.varK_bor, Ev.solS_val, Ev.solS_own, Ev.sol_d, Ev.sol_f, Ev.sol_s, Ev.muS_own, Ev.muS_bor, Ev.mutAt_eq, Ev.bop_add, Ev.bop_sub, Ev.bop_mul, Ev.bop_div, Ev.bop_mod, Ev.bop_tup, Ev.bop_lst, Ev.cop_lt, Ev.cop_le, Ev.cop_gt, Ev.cop_ge, Ev.cop_eqi, Ev.cop_eqs, Ev.cop_nei, Ev.cop_nes, Ev.cop_is, Ev.cop_isNot, Ev.cop_in, Ev.is_bb, Ev.e_none, Ev.e_bool, Ev.e_int, Ev.e_str, Ev.e_var, Ev.e_glob, Ev.e_bin, Ev.e_neg, Ev.e_cmp, Ev.chnS_some, Ev.e_chn, Ev.e_not, Ev.e_and, Ev.e_or, Ev.e_ife, Ev.e_tup, Ev.e_lst, Ev.e_idx, Ev.e_isi, Ev.e_bl1, Ev.e_bl2, Ev.callK_v, Ev.callK_f, Ev.callK_v1, Ev.callK_f1, Ev.callK_v2, Ev.argK_some, Ev.e_call, Ev.argsS_nil, Ev.argsS_v, Ev.argsS_l, Ev.lends_nil, Ev.lends_v, Ev.lends_l, Ev.a_nil, Ev.a_cons, Ev.r_nil, Ev.r_cons, Ev.lendK_some, Ev.r_lend, Ev.o_no, Ev.derK_some, Ev.o_yes, Ev.t_no, Ev.t_yes, Ev.i_val, Ev.slS_some, Ev.e_slc, Ev.opt_none, Ev.opt_int, Ev.slice_list, Ev.slice_tup, Ev.e_dsp, Ev.dicS_some, Ev.e_mg2, Ev.rgK_i, Ev.i_rg1, Ev.rgK2_i, Ev.i_rg2, Ev.enK_some, Ev.i_enm, Ev.zpK_some, Ev.i_zip, Ev.c_cst, Ev.c_var, Ev.c_cmp, Ev.c_chn, Ev.c_isi, Ev.c_call, Ev.c_bl1, Ev.c_not, Ev.c_and, Ev.c_or, Ev.c_ife, Ev.seqK_nx, Ev.seqK_brk, Ev.seqK_cnt, Ev.seqK_ret, Ev.seqK_exc, Ev.seqK_stuck, Ev.seqK_ite, Ev.b_nil, Ev.b_cons, Ev.retK_d, Ev.retK_f, Ev.s_ret, Ev.s_retN, Ev.s_asg, Ev.s_ex, Ev.s_if, Ev.s_for, Ev.s_whl, Ev.s_pas, Ev.s_rse, Ev.stoK_un, Ev.stoK_val, Ev.stoK_own, Ev.asn_d, Ev.asn_f, Ev.asn_fo, Ev.asn_t, Ev.asnL_nil, Ev.asnL_cons, Ev.asnP_nil, Ev.asnP_cons, Ev.s_asp, Ev.fK_f, Ev.fK_d, Ev.fK_s, Ev.f_nil, Ev.f_cons, Ev.lendF_some, Ev.setS_own, Ev.setS_bor, Ev.setAt_eq, Ev.ixK_some, Ev.setK_l, Ev.s_sto, Ev.outs_nil, Ev.outs_v, Ev.outs_b, Ev.endK_nx, Ev.endK_ret, Ev.endK_exc, Ev.endK_stuck, Ev.endK_ite, Ev.endS_some, Ev.endCall_eq, Ev.e_emp, Ev.e_din, Ev.e_dix, Ev.sdkS_some, Ev.e_sdk, Ev.e_tin, Ev.e_tix, Ev.e_tg1, Ev.e_tg2, Ev.e_sdt, Ev.c_din, Ev.c_tin, Ev.s_dst, Ev.s_tst, Ev.isN_none, Ev.isN_bool, Ev.isN_int, Ev.isN_str, Ev.isN_list, Ev.isN_tup, Ev.isN_dict, Ev.e_mg1, Ev.appL_l, Ev.appK_l, Ev.s_app, Ev.nd_none, Ev.ty_int_none, Ev.ty_bool_none, Ev.ty_str_none, Ev.ty_tuple_none, Ev.ty_list_none, Ev.nd_bool, Ev.ty_int_bool, Ev.ty_bool_bool, Ev.ty_str_bool, Ev.ty_tuple_bool, Ev.ty_list_bool, Ev.nd_int, Ev.ty_int_int, Ev.ty_bool_int, Ev.ty_str_int, Ev.ty_tuple_int, Ev.ty_list_int, Ev.nd_str, Ev.ty_int_str, Ev.ty_bool_str, Ev.ty_str_str, Ev.ty_tuple_str, Ev.ty_list_str, Ev.nd_list, Ev.ty_int_list, Ev.ty_bool_list, Ev.ty_str_list, Ev.ty_tuple_list, Ev.ty_list_list, Ev.nd_tup, Ev.ty_int_tup, Ev.ty_bool_tup, Ev.ty_str_tup, Ev.ty_tuple_tup, Ev.ty_list_tup, Ev.nd_dict, Ev.ty_int_dict, Ev.ty_bool_dict, Ev.ty_str_dict, Ev.ty_tuple_dict, Ev.ty_list_dict, List.getElem?_cons_zero, List.getElem?_cons_succ, List.getElem?_nil, List.set_cons_zero, List.set_cons_succ, List.length_cons, List.length_nil, List.replicate_succ, List.replicate_zero, List.cons_append, List.nil_append, List.append_nil, List.nodup_nil, List.nodup_cons, List.mem_cons, List.not_mem_nil, List.isEmpty_nil, List.isEmpty_cons, Option.map_some, Option.map_none, Option.bind_some, Option.bind_none, Option.getD_some, Option.getD_none, Option.isSome_some, Option.isSome_none, Option.isNone_some, Option.isNone_none, ite_true, ite_false, if_true, if_false, decide_true, decide_false, decide_eq_true_eq, Bool.not_true, Bool.not_false, Bool.not_not, Bool.true_and, Bool.false_and, Bool.and_true, Bool.and_false, Bool.or_true, Bool.or_false, Bool.true_or, Bool.false_or, Bool.not_eq_true, Bool.not_eq_true', Bool.and_self, Bool.or_self, Bool.false_eq_true, reduceCtorEq, not_true_eq_false, not_false_eq_true, or_false, false_or, or_true, true_or, and_true, true_and, and_false, false_and, eq_self, bne_self_eq_false, Nat.reduceAdd, Nat.reduceSub, Nat.reduceLeDiff, Nat.reduceLT, Nat.reduceEqDiff, Nat.zero_add, Nat.reduceMul, Int.reduceNeg, Int.reduceAdd, Int.reduceSub, Int.reduceMul, Int.reduceLT, Int.reduceLE, Int.reduceEq, Int.reduceDiv, Int.reduceMod, Int.reduceToNat, Int.reducePow, Nat.succ_ne_zero, Nat.add_eq_zero_iff, Nat.le_refl, Nat.one_ne_zero, ↓reduceIte, Ev.SZ, $ts,*])
set_option linter.all false
set_option maxRecDepth 100000
set_option maxHeartbeats 4000000
/-! A drawn strip is a strip. -/
namespace K65
open PySem Ev
def GoodF (t : Th) : Prop := isSp t = true ∧ ∃ d, wf t d
theorem cond4 (N : Nat) (v : D) (st : List St) (hg : ∀ s ∈ st, GoodSt s) (s2 s3 s4 s5 s6 s7 : Sl) : (ev (callN P W N) (.cmp .ne (.var 1) (.lst .nil))).2 [.val v, .val (.list (st.map stD)), s2, s3, s4, s5, s6, s7] = .ok (decide (st ≠ [])) [.val v, .val (.list (st.map stD)), s2, s3, s4, s5, s6, s7] := by
  have e7 := lay_st st hg
  have e8 := ne_lnil e7.1 (by omega)
  have e9 : decide (st.map stD ≠ []) = decide (st ≠ []) := by cases st <;> rfl
  rw [e9] at e8
  obtain ⟨L, hL⟩ : ∃ L, L = st.map stD := ⟨_, rfl⟩
  rw [← hL] at e8 ⊢
  simp [e8, SZ]
theorem loop4 {N : Nat} (hN : 2 ≤ N) (v : D) : ∀ (m : Nat) (st : List St) (c : Nat) (fs : List Th) (s4 s5 s6 : Sl) (k : Nat), Free s4 → Free s5 → Free s6 → tot st + st.length ≤ m → (∀ s ∈ st, GoodSt s) → c + tot st ≤ 60 → m ≤ 90 → fs.length + spt st ≤ 20 → (∀ t ∈ fs, GoodF t) → m < k →
    ∃ (c' : Int) (gs : List Th) (t4 t5 t6 : Sl), whileN (fun r => (ev (callN P W N) (.cmp .ne (.var 1) (.lst .nil))).2 r) (fun r => evB (callN P W N) W f4_b0 r) k [.val v, .val (.list (st.map stD)), .val (.int c), .val (.list (fs.map enc)), s4, s5, s6, .un] = .ok .nx [.val v, .val (.list []), .val (.int c'), .val (.list (gs.map enc)), t4, t5, t6, .un] ∧ gs.length ≤ 20 ∧ ∀ t ∈ gs, GoodF t
  | m, st, c, fs, s4, s5, s6, k, h4, h5, h6, hm, hg, hb, hs, hf, hF, hk => by
    obtain ⟨k, rfl⟩ : ∃ j, k = j + 1 := ⟨k - 1, by omega⟩
    have ec := cond4 N v st hg (.val (.int c)) (.val (.list (fs.map enc))) s4 s5 s6 .un
    rcases List.eq_nil_or_concat st with rfl | ⟨st', ⟨l, p⟩, rfl⟩
    · exact ⟨c, fs, s4, s5, s6, whl_end ec, by omega, hF⟩
    · rw [List.concat_eq_append] at *
      have hgl : GoodSt (l, p) := hg _ (List.mem_append_right _ List.mem_cons_self)
      have ht := tot_app st' [(l, p)]
      have ht2 : tot [(l, p)] = cnts l + 0 := rfl
      have ht3 := bxs_tot p l
      have ht4 := tot_app st' (bxs l p)
      have hs1 := spt_app st' [(l, p)]
      have hs2 : spt [(l, p)] = spcs l + 0 := rfl
      have hs3 := bxs_spt p l
      have hs4 := spt_app st' (bxs l p)
      have hcl := len_cnts l
      have bl := bxs_len l p
      rw [List.length_append, List.length_singleton] at hm
      have et := turn4 hN v st' l p c fs s4 s5 s6 h4 h5 h6 hgl (by omega) (by omega) (by omega)
      obtain ⟨m, rfl⟩ : ∃ j, m = j + 1 := ⟨m - 1, by omega⟩
      have hfl := List.length_filter_le isSp l
      have ed : decide (st' ++ [(l, p)] ≠ []) = true := by simp
      rw [ed] at ec
      obtain ⟨c', gs, t4, t5, t6, e, r1, r2⟩ := loop4 hN v m (st' ++ bxs l p) (c + l.length) (fs ++ l.filter isSp) (.val (.tuple (encs l))) (.val (.int p)) (.val (.list ((bxs l p).map stD))) k (.inr ⟨_, rfl⟩) (.inr ⟨_, rfl⟩) (.inr ⟨_, rfl⟩)
        (by rw [List.length_append]; omega) (fun s hs => by
          rcases List.mem_append.mp hs with h | h
          · exact hg s (List.mem_append_left _ h)
          · exact bxs_good hgl s h) (by omega) (by omega) (by rw [List.length_append]; omega) (fun t ht => by
          rcases List.mem_append.mp ht with h | h
          · exact hF t h
          · obtain ⟨d, h1, _⟩ := hgl
            exact ⟨(List.mem_filter.mp h).2, d, wfs_le l d h1 t (List.mem_filter.mp h).1⟩) (by omega)
      exact ⟨c', gs, t4, t5, t6, (whl_nx ec et).trans e, r1, r2⟩
theorem found4 {N : Nat} (hN : 3 ≤ N) (l : List Th) (hw : wfs l 2) (hc : cnts l ≤ 60) (hz : spcs l ≤ 20) : ∃ gs : List Th, callN P W N 4 [.val (.tuple (encs l))] = .ok false (.list (gs.map enc)) [] ∧ gs.length ≤ 20 ∧ ∀ t ∈ gs, GoodF t := by
  obtain ⟨M, rfl⟩ : ∃ M, N = M + 1 := ⟨N - 1, by omega⟩
  have ht : tot [(l, 0)] = cnts l + 0 := rfl
  obtain ⟨c', gs, t4, t5, t6, e, r1, r2⟩ := loop4 (N := M) (by omega) (.tuple (encs l)) 61 [(l, 0)] 0 [] .un .un .un W (.inl rfl) (.inl rfl) (.inl rfl) (by rw [ht, List.length_singleton]; omega) (fun s hs => by
    rw [List.mem_singleton] at hs
    subst hs
    exact ⟨2, hw, Nat.le_refl _⟩) (by omega) (by decide) (by have : spt [(l, 0)] = spcs l + 0 := rfl; show 0 + _ ≤ 20; omega) (fun t ht => nomatch ht) (by decide)
  have e2 : evS (callN P W M) W f4_l0 [.val (.tuple (encs l)), .val (.list [.tuple [.tuple (encs l), .int 0]]), .val (.int 0), .val (.list []), .un, .un, .un, .un] = .ok .nx [.val (.tuple (encs l)), .val (.list []), .val (.int c'), .val (.list (gs.map enc)), t4, t5, t6, .un] := by
    rw [show f4_l0 = IS.whl (.cmp .ne (.var 1) (.lst .nil)) f4_b0 from rfl, s_whl]
    exact e
  refine ⟨gs, ?_, r1, r2⟩
  rw [step (df := f4) rfl rfl]
  obtain ⟨L, hL⟩ : ∃ L, L = encs l := ⟨_, rfl⟩
  obtain ⟨G, hG⟩ : ∃ G, G = gs.map enc := ⟨_, rfl⟩
  rw [← hL, ← hG] at e2 ⊢
  simp [f4, e2, SZ]
theorem sum5 {N : Nat} (hN : 1 ≤ N) (up : Bool) (o : Int) (gs : List Th) (hl : gs.length ≤ 20) (hg : ∀ t ∈ gs, GoodF t) : ∃ s : Int, s ≤ 300 ∧ callN P W N 5 [.val (.list (gs.map enc)), .val (.int (wy up)), .val (.int o)] = .ok false (.int s) [] := by
  obtain ⟨M, rfl⟩ : ∃ M, N = M + 1 := ⟨N - 1, by omega⟩
  obtain ⟨q, hq⟩ : ∃ q : Th → Bool, q = fun t => decide (od up t = o) := ⟨_, rfl⟩
  have e : (ev (callN P W M) f5_c0).1 [.val (.list (gs.map enc)), .val (.int (wy up)), .val (.int o), .un] = .ok (.f (.list ((gs.filter q).map fun t => .int (am up t)))) [.val (.list (gs.map enc)), .val (.int (wy up)), .val (.int o), .un] := by
    refine e_filter (xs := gs) (en := enc) q (fun t => .int (am up t)) (by simp [itemsOf]) (fun t ht => ?_) (by show _ ≤ 16777216; omega)
    have hs := (hg t ht).1
    cases t with
    | space w a o' b p =>
      have i1 := idxw up w a o' b p (.str "space")
      have i2 := idxo up w a o' b p (.str "space")
      by_cases h : od up (.space w a o' b p) = o
      · exact ⟨_, by simp [item, wipeE, enc, i1, i2, hq, h]; rfl, by simp [wipeE]⟩
      · exact ⟨_, by simp [item, wipeE, enc, i1, i2, hq, h]; rfl, by simp [wipeE]⟩
    | _ => exact nomatch hs
  have hn : ∀ x ∈ (gs.filter q).map (am up), 0 ≤ x ∧ x ≤ 15 := by
    intro x hx
    obtain ⟨t, ht, rfl⟩ := List.mem_map.mp hx
    obtain ⟨d, hw⟩ := (hg t (List.mem_filter.mp ht).1).2
    exact am_b up hw
  have hs := sum_b _ hn
  have hl2 := List.length_filter_le q gs
  rw [List.length_map] at hs
  refine ⟨((gs.filter q).map (am up)).sum, by omega, ?_⟩
  have e3 := sum_intsF (am up) (gs.filter q)
  rw [step (df := f5) rfl rfl]
  obtain ⟨G, hG⟩ : ∃ G, G = gs.map enc := ⟨_, rfl⟩
  obtain ⟨F, hF⟩ : ∃ F, F = (gs.filter q).map fun t => PyData.int (am up t) := ⟨_, rfl⟩
  rw [← hG, ← hF] at e
  rw [← hF] at e3
  rw [← hG]
  simp [f5, e, e3]
theorem all6 {N : Nat} (hN : 1 ≤ N) (v : D) (gs : List Th) (hl : gs.length ≤ 20) (hg : ∀ t ∈ gs, GoodF t) : (ev (callN P W N) f6_c0).1 [.val v, .val (.list (gs.map enc)), .un, .un] = .ok (.f (.list (([true, false] : List Bool).flatMap fun _ => ([0, 1, 2] : List Int).map fun _ => .bool true))) [.val v, .val (.list (gs.map enc)), .un, .un] := by
  obtain ⟨G, hG⟩ : ∃ G, G = gs.map enc := ⟨_, rfl⟩
  have e5 : ∀ up o, ∃ s : Int, s ≤ 300 ∧ callN P W N 5 [.val (.list G), .val (.int (wy up)), .val (.int o)] = .ok false (.int s) [] := fun up o => hG ▸ sum5 hN up o gs hl hg
  rw [← hG]
  refine e_cm2 (xs := ([true, false] : List Bool)) (en := fun up => .int (wy up)) (fun _ => ([0, 1, 2] : List Int).map fun _ => .bool true) (by simp [itemsOf, SZ, wy]) (fun up hup => ?_) (by decide)
  obtain ⟨r', e, hr⟩ := compL_flat (f := fun z r6 => item (callN P W N) (.cmp .le (.call 5 "sum_with" (.cons (.var 1) (.cons (.var 2) (.cons (.var 3) .nil)))) (.glob "SUM" (.int 300))) (.n 3 false) .no [3] z (wipeE [3] r6)) (vs := [3]) (w := [.val v, .val (.list G), .val (.int (wy up)), .un]) (en := PyData.int) (g := fun _ => [PyData.bool true]) ([0, 1, 2] : List Int) [.val v, .val (.list G), .val (.int (wy up)), .un] (by simp [wipeE]) fun o ho r hr => by
      obtain ⟨s, hs, e⟩ := e5 up o
      rw [hr]
      exact ⟨_, by simp [item, e, hs]; rfl, by simp [wipeE]⟩
  refine ⟨r', ?_, ?_⟩
  · have e2 : compL (fun z r6 => item (callN P W N) (.cmp .le (.call 5 "sum_with" (.cons (.var 1) (.cons (.var 2) (.cons (.var 3) .nil)))) (.glob "SUM" (.int 300))) (.n 3 false) .no [3] z (wipeE [3] r6)) [.int 0, .int 1, .int 2] [.val v, .val (.list G), .val (.int (wy up)), .un] = .ok [.bool true, .bool true, .bool true] r' := e
    simp [item2, wipeE, itemsOf, SZ]
    exact e2
  · have h2 : r'.length = 4 := by
      have := congrArg List.length hr
      rw [wipeE_len] at this
      exact this
    have h0 := congrArg (fun q : Ev.Env => q[0]?) hr
    have h1 := congrArg (fun q : Ev.Env => q[1]?) hr
    simp only [wipeE_get] at h0 h1
    apply List.ext_getElem?
    intro j
    simp only [wipeE_get]
    match j with
    | 0 => simpa using h0
    | 1 => simpa using h1
    | 2 => simp [h2]
    | 3 => simp [h2]
    | j + 4 => simp [h2]
theorem strip6 {N : Nat} (hN : 4 ≤ N) (l : List Th) (hw : wfs l 2) (hc : cnts l ≤ 60) (hz : spcs l ≤ 20) : callN P W N 6 [.val (.tuple (encs l))] = .ok false (.bool true) [] := by
  obtain ⟨M, rfl⟩ : ∃ M, N = M + 1 := ⟨N - 1, by omega⟩
  obtain ⟨gs, e1, h1, h2⟩ := found4 (N := M) (by omega) l hw hc hz
  have e2 := all6 (N := M) (by omega) (.tuple (encs l)) gs h1 h2
  obtain ⟨L, hL⟩ : ∃ L, L = encs l := ⟨_, rfl⟩
  obtain ⟨G, hG⟩ : ∃ G, G = gs.map enc := ⟨_, rfl⟩
  rw [← hL, ← hG] at e1 e2
  rw [← hL]
  have e3 : b1 .all (.list (([true, false] : List Bool).flatMap fun _ => ([0, 1, 2] : List Int).map fun _ => .bool true)) = some (.d (.bool true)) := by kernel_rfl
  obtain ⟨A, hA⟩ : ∃ A, A = ([true, false] : List Bool).flatMap fun _ => ([0, 1, 2] : List Int).map fun _ => PyData.bool true := ⟨_, rfl⟩
  rw [← hA] at e2 e3
  have e4 : isOf (.list G) .none = some false := rfl
  rw [step (df := f6) rfl rfl]
  simp [f6, e1, e2, e3, e4]
/-- a passage: at most 60 things, at most 20 spaces, at most 10 places, a place at the end -/
structure Psg (l : List Th) : Prop where
  wf : wfs l 2
  cnt : cnts l ≤ 60
  spc : spcs l ≤ 20
  end_ : ∃ t n, l = t ++ [.place n]
  pl : (plM l).length ≤ 6
theorem b8 (call : Nat → List Sl → CR) (L x : D) (PL : List D) (n : Int) (e1 : call 6 [.val L] = .ok false (.bool true) []) (e2 : cop .eq L (.tuple []) = some false) (e3 : idx L (.int (-1)) = some x) (e4 : idx x (.int 0) = some (.str "place")) (e5 : call 7 [.val L] = .ok true (.list PL) []) (e6 : b1 .len (.list PL) = some (.d (.int n))) (hn : n ≤ 10) :
    endK [.val L] (evB call W f8.body ([.val L] ++ List.replicate (f8.names.length - f8.np) .un)) = .ok false (.bool true) [] := by
  simp! [f8, e1, e2, e3, e4, e5, e6, hn]
theorem eq_tup (l : List Th) {d : Nat} (hd : d ≤ 10) (h : wfs l d) : cop .eq (.tuple (encs l)) (.tuple []) = some (decide (l = [])) := by
  have := lay_l l d h
  rw [cop_eqD (eqOk_shaped (shaped_tup this.1 (by omega)) (by decide))]
  cases l <;> rfl
theorem fits8 {N : Nat} (hN : 6 ≤ N) {l : List Th} (h : Psg l) : callN P W N 8 [.val (.tuple (encs l))] = .ok false (.bool true) [] := by
  obtain ⟨M, rfl⟩ : ∃ M, N = M + 1 := ⟨N - 1, by omega⟩
  obtain ⟨t, n, ht⟩ := h.end_
  rw [step (df := f8) rfl rfl]
  have hne : l ≠ [] := by rw [ht]; simp
  refine b8 _ _ (enc (.place n)) ((plM l).map fun n : Nat => .int n) (plM l).length (strip6 (by omega) l h.wf h.cnt h.spc) ?_ ?_ rfl (places7 (by omega) l (by have := h.cnt; omega)) ?_ (by have := h.pl; omega)
  · rw [eq_tup l (by omega) h.wf, decide_eq_false hne]
  · rw [ht, encs_app]
    exact idx_lastT _ _
  · rw [len_lstD, List.length_map]
theorem need9 {N : Nat} (hN : 7 ≤ N) {l : List Th} (h : Psg l) : callN P W N 9 [.val (.tuple (encs l))] = .ok false .none [] := by
  obtain ⟨M, rfl⟩ : ∃ M, N = M + 1 := ⟨N - 1, by omega⟩
  have e1 := fits8 (N := M) (by omega) h
  rw [step (df := f9) rfl rfl]
  simp! [f9, e1]
theorem need16 {N : Nat} (hN : 2 ≤ N) (w lo hi : Int) (h1 : lo ≤ w) (h2 : w ≤ hi) : callN P W N 13 [.val (.int w), .val (.int lo), .val (.int hi)] = .ok false .none [] := by
  obtain ⟨M, rfl⟩ : ∃ M, N = M + 1 := ⟨N - 1, by omega⟩
  have e1 := whole0 (N := M) (by omega) w lo hi h1 h2
  rw [step (df := f13) rfl rfl]
  simp! [f13, e1]
end K65

end
section
set_option maxRecDepth 100000
local macro_rules | `(tactic| simp! [$ts,*]) => `(tactic| simp only [Ev.bind_ok', Ev.bind_stuck', Ev.bind_ite, Ev.of_some', Ev.of_none', Ev.of_ite, Ev.slD_val, Ev.slD_own, Ev.slD_bor, Ev.deref_d, Ev.deref_f, Ev.deref_s, Ev.tru_eq, Ev.truS_some, Ev.truth_bool, Ev.truth_int, Ev.truth_list, Ev.truth_tuple, Ev.un1S_some, Ev.bi2S_some, Ev.andK_b, Ev.orK_b, Ev.negK_i, Ev.varK_val, Ev.varK_own, Ev.varK_bor, Ev.solS_val, Ev.solS_own, Ev.sol_d, Ev.sol_f, Ev.sol_s, Ev.muS_own, Ev.muS_bor, Ev.mutAt_eq, Ev.bop_add, Ev.bop_sub, Ev.bop_mul, Ev.bop_div, Ev.bop_mod, Ev.bop_tup, Ev.bop_lst, Ev.cop_lt, Ev.cop_le, Ev.cop_gt, Ev.cop_ge, Ev.cop_eqi, Ev.cop_eqs, Ev.cop_nei, Ev.cop_nes, Ev.cop_is, Ev.cop_isNot, Ev.cop_in, Ev.is_bb, Ev.e_none, Ev.e_bool, Ev.e_int, Ev.e_str, Ev.e_var, Ev.e_glob, Ev.e_bin, Ev.e_neg, Ev.e_cmp, Ev.chnS_some, Ev.e_chn, Ev.e_not, Ev.e_and, Ev.e_or, Ev.e_ife, Ev.e_tup, Ev.e_lst, Ev.e_idx, Ev.e_isi, Ev.e_bl1, Ev.e_bl2, Ev.callK_v, Ev.callK_f, Ev.callK_v1, Ev.callK_f1, Ev.callK_v2, Ev.argK_some, Ev.e_call, Ev.argsS_nil, Ev.argsS_v, Ev.argsS_l, Ev.lends_nil, Ev.lends_v, Ev.lends_l, Ev.a_nil, Ev.a_cons, Ev.r_nil, Ev.r_cons, Ev.lendK_some, Ev.r_lend, Ev.o_no, Ev.derK_some, Ev.o_yes, Ev.t_no, Ev.t_yes, Ev.i_val, Ev.slS_some, Ev.e_slc, Ev.opt_none, Ev.opt_int, Ev.slice_list, Ev.slice_tup, Ev.e_dsp, Ev.dicS_some, Ev.e_mg2, Ev.rgK_i, Ev.i_rg1, Ev.rgK2_i, Ev.i_rg2, Ev.enK_some, Ev.i_enm, Ev.zpK_some, Ev.i_zip, Ev.c_cst, Ev.c_var, Ev.c_cmp, Ev.c_chn, Ev.c_isi, Ev.c_call, Ev.c_bl1, Ev.c_not, Ev.c_and, Ev.c_or, Ev.c_ife, Ev.seqK_nx, Ev.seqK_brk, Ev.seqK_cnt, Ev.seqK_ret, Ev.seqK_exc, Ev.seqK_stuck, Ev.seqK_ite, Ev.b_nil, Ev.b_cons, Ev.retK_d, Ev.retK_f, Ev.s_ret, Ev.s_retN, Ev.s_asg, Ev.s_ex, Ev.s_if, Ev.s_for, Ev.s_whl, Ev.s_pas, Ev.s_rse, Ev.stoK_un, Ev.stoK_val, Ev.stoK_own, Ev.asn_d, Ev.asn_f, Ev.asn_fo, Ev.asn_t, Ev.asnL_nil, Ev.asnL_cons, Ev.asnP_nil, Ev.asnP_cons, Ev.s_asp, Ev.fK_f, Ev.fK_d, Ev.fK_s, Ev.f_nil, Ev.f_cons, Ev.lendF_some, Ev.setS_own, Ev.setS_bor, Ev.setAt_eq, Ev.ixK_some, Ev.setK_l, Ev.s_sto, Ev.outs_nil, Ev.outs_v, Ev.outs_b, Ev.endK_nx, Ev.endK_ret, Ev.endK_exc, Ev.endK_stuck, Ev.endK_ite, Ev.endS_some, Ev.endCall_eq, Ev.e_emp, Ev.e_din, Ev.e_dix, Ev.sdkS_some, Ev.e_sdk, Ev.e_tin, Ev.e_tix, Ev.e_tg1, Ev.e_tg2, Ev.e_sdt, Ev.c_din, Ev.c_tin, Ev.s_dst, Ev.s_tst, Ev.isN_none, Ev.isN_bool, Ev.isN_int, Ev.isN_str, Ev.isN_list, Ev.isN_tup, Ev.isN_dict, Ev.e_mg1, Ev.appL_l, Ev.appK_l, Ev.s_app, Ev.nd_none, Ev.ty_int_none, Ev.ty_bool_none, Ev.ty_str_none, Ev.ty_tuple_none, Ev.ty_list_none, Ev.nd_bool, Ev.ty_int_bool, Ev.ty_bool_bool, Ev.ty_str_bool, Ev.ty_tuple_bool, Ev.ty_list_bool, Ev.nd_int, Ev.ty_int_int, Ev.ty_bool_int, Ev.ty_str_int, Ev.ty_tuple_int, Ev.ty_list_int, Ev.nd_str, Ev.ty_int_str, Ev.ty_bool_str, Ev.ty_str_str, Ev.ty_tuple_str, Ev.ty_list_str, Ev.nd_list, Ev.ty_int_list, Ev.ty_bool_list, Ev.ty_str_list, Ev.ty_tuple_list, Ev.ty_list_list, Ev.nd_tup, Ev.ty_int_tup, Ev.ty_bool_tup, Ev.ty_str_tup, Ev.ty_tuple_tup, Ev.ty_list_tup, Ev.nd_dict, Ev.ty_int_dict, Ev.ty_bool_dict, Ev.ty_str_dict, Ev.ty_tuple_dict, Ev.ty_list_dict, List.getElem?_cons_zero, List.getElem?_cons_succ, List.getElem?_nil, List.set_cons_zero, List.set_cons_succ, List.length_cons, List.length_nil, List.replicate_succ, List.replicate_zero, List.cons_append, List.nil_append, List.append_nil, List.nodup_nil, List.nodup_cons, List.mem_cons, List.not_mem_nil, List.isEmpty_nil, List.isEmpty_cons, Option.map_some, Option.map_none, Option.bind_some, Option.bind_none, Option.getD_some, Option.getD_none, Option.isSome_some, Option.isSome_none, Option.isNone_some, Option.isNone_none, ite_true, ite_false, if_true, if_false, decide_true, decide_false, decide_eq_true_eq, Bool.not_true, Bool.not_false, Bool.not_not, Bool.true_and, Bool.false_and, Bool.and_true, Bool.and_false, Bool.or_true, Bool.or_false, Bool.true_or, Bool.false_or, Bool.not_eq_true, Bool.not_eq_true', Bool.and_self, Bool.or_self, Bool.false_eq_true, reduceCtorEq, not_true_eq_false, not_false_eq_true, or_false, false_or, or_true, true_or, and_true, true_and, and_false, false_and, eq_self, bne_self_eq_false, Nat.reduceAdd, Nat.reduceSub, Nat.reduceLeDiff, Nat.reduceLT, Nat.reduceEqDiff, Nat.zero_add, Nat.reduceMul, Int.reduceNeg, Int.reduceAdd, Int.reduceSub, Int.reduceMul, Int.reduceLT, Int.reduceLE, Int.reduceEq, Int.reduceDiv, Int.reduceMod, Int.reduceToNat, Int.reducePow, Nat.succ_ne_zero, Nat.add_eq_zero_iff, Nat.le_refl, Nat.one_ne_zero, ↓reduceIte, Ev.SZ, $ts,*])
set_option linter.all false
set_option maxRecDepth 100000
set_option maxHeartbeats 4000000
/-! The dicts of both; the program's three answers. -/
namespace K65
open PySem Ev
section
variable (call : Nat → List Sl → CR)
theorem b37n (L m many A i : D) (j ln : D) (s5 s6 : Sl) (h5 : Free s5) (h6 : Free s6) (e1 : call 31 [.val L, .val i, .val j] = .ok false ln []) (e2 : call 32 [.val ln, .val m] = .ok false .none []) :
    ((asn (.n 5 false) (.d j) [.val L, .val m, .val many, .own A, .val i, s5, s6]).bind fun _ r3 => evB call W f33_b0 r3) = .ok .nx [.val L, .val m, .val many, .own A, .val i, .val j, .val .none] := by
  simp! [f33_b0, sto_free h5, sto_free h6, e1, e2]
theorem b37s (L m many A B i : D) (j ln v : D) (s5 s6 : Sl) (h5 : Free s5) (h6 : Free s6) (e1 : call 31 [.val L, .val i, .val j] = .ok false ln []) (e2 : call 32 [.val ln, .val m] = .ok false v []) (hv : isOf v .none = some false) (em : mrgS A [i, j] v = some B) :
    ((asn (.n 5 false) (.d j) [.val L, .val m, .val many, .own A, .val i, s5, s6]).bind fun _ r3 => evB call W f33_b0 r3) = .ok .nx [.val L, .val m, .val many, .own B, .val i, .val j, .val v] := by
  have e := fun r => tstS_some r 3 A v B [i, j] em
  simp! [f33_b0, sto_free h5, sto_free h6, e1, e2, hv, e]
variable (fit : Int → Int → Option (Int × Int))
theorem in37 {v : D} {m : Int} {many : Nat} {i : Int} (hcall : ∀ j : Int, i < j → j < many → ∃ ln, call 31 [.val v, .val (.int i), .val (.int j)] = .ok false ln [] ∧ call 32 [.val ln, .val (.int m)] = .ok false (optP (fit i j)) []) :
    ∀ (js : List Int) (ps : List Pr) (s5 s6 : Sl), Free s5 → Free s6 → (∀ j ∈ js, i < j ∧ j < many) → Good (ps ++ rowP fit i js) →
    ∃ t5 t6, Free t5 ∧ Free t6 ∧ forL (fun x r2 => (asn (.n 5 false) (.d x) r2).bind fun _ r3 => evB call W f33_b0 r3) (js.map PyData.int) [.val v, .val (.int m), .val (.int many), .own (pD ps), .val (.int i), s5, s6] = .ok .nx [.val v, .val (.int m), .val (.int many), .own (pD (ps ++ rowP fit i js)), .val (.int i), t5, t6]
  | [], ps, s5, s6, h5, h6, hj, hg => ⟨s5, s6, h5, h6, by show Res.ok Fl.nx _ = _; rw [show rowP fit i [] = [] from rfl, List.append_nil]⟩
  | j :: js, ps, s5, s6, h5, h6, hj, hg => by
    have hj0 := hj j List.mem_cons_self
    obtain ⟨ln, e1, e2⟩ := hcall j hj0.1 hj0.2
    cases hf : fit i j with
    | none =>
      have er : rowP fit i (j :: js) = rowP fit i js := by unfold rowP; rw [List.filterMap_cons, hf]; rfl
      rw [hf] at e2
      rw [er] at hg ⊢
      obtain ⟨t5, t6, g5, g6, e⟩ := in37 hcall js ps (.val (.int j)) (.val .none) (.inr ⟨_, rfl⟩) (.inr ⟨_, rfl⟩) (fun x hx => hj x (List.mem_cons_of_mem _ hx)) hg
      refine ⟨t5, t6, g5, g6, ?_⟩
      rw [List.map_cons, for_nx (b37n call v (.int m) (.int many) (pD ps) (.int i) (.int j) ln s5 s6 h5 h6 e1 e2), e]
    | some q =>
      have er : rowP fit i (j :: js) = ((i, j), q) :: rowP fit i js := by unfold rowP; rw [List.filterMap_cons, hf]; rfl
      rw [hf] at e2
      rw [er] at hg ⊢
      rw [show ps ++ ((i, j), q) :: rowP fit i js = (ps ++ [((i, j), q)]) ++ rowP fit i js by simp] at hg ⊢
      have hgp : Good (ps ++ [((i, j), q)]) := good_sub (List.sublist_append_left _ _) hg
      have hgq : Good ps := good_sub (List.sublist_append_left _ _) hgp
      have hnew : (i, j) ∉ ps.map (·.1) := by
        have := hgp.1
        rw [List.map_append, List.nodup_append] at this
        exact fun hm => this.2.2 _ hm (i, j) List.mem_cons_self rfl
      have em := mrgS_K encQ hnew q (Nat.lt_of_le_of_lt hgq.2.2 (by decide))
      obtain ⟨t5, t6, g5, g6, e⟩ := in37 hcall js (ps ++ [((i, j), q)]) (.val (.int j)) (.val (encQ q)) (.inr ⟨_, rfl⟩) (.inr ⟨_, rfl⟩) (fun x hx => hj x (List.mem_cons_of_mem _ hx)) hg
      refine ⟨t5, t6, g5, g6, ?_⟩
      rw [List.map_cons, for_nx (b37s call v (.int m) (.int many) (pD ps) (pD (ps ++ [((i, j), q)])) (.int i) (.int j) ln (encQ q) s5 s6 h5 h6 e1 e2 rfl em), e]
theorem rg37 (v m A i : D) (many : Nat) (hm : many ≤ 6) (h : Int) (hi : i = .int h) (h0 : -1 ≤ h ∧ h < many) (s5 s6 : Sl) : evI call (.rg2 (.bin .add (.var 4) (.cst (.int 1))) (.var 2)) [.val v, .val m, .val (.int many), .own A, .val i, s5, s6] = .ok ((inR (h + 1) ((many : Int) - (h + 1)).toNat).map PyData.int) [.val v, .val m, .val (.int many), .own A, .val i, s5, s6] := by
  subst hi
  exact rg2_in (by simp! []) (by simp! []) (by omega) (by omega)
theorem b37o (v m many A B i : D) (s4 s5 s6 t5 t6 : Sl) (h4 : Free s4) (el : evS call W f33_l0 [.val v, .val m, .val many, .own A, .val i, s5, s6] = .ok .nx [.val v, .val m, .val many, .own B, .val i, t5, t6]) :
    ((asn (.n 4 false) (.d i) [.val v, .val m, .val many, .own A, s4, s5, s6]).bind fun _ r3 => evB call W f33_b1 r3) = .ok .nx [.val v, .val m, .val many, .own B, .val i, t5, t6] := by
  simp! [f33_b1, sto_free h4, el]
theorem out37 {v : D} {m : Int} {many : Nat} (hm : many ≤ 6) (hcall : ∀ i j : Int, -1 ≤ i → i < j → j < many → ∃ ln, call 31 [.val v, .val (.int i), .val (.int j)] = .ok false ln [] ∧ call 32 [.val ln, .val (.int m)] = .ok false (optP (fit i j)) []) :
    ∀ (is : List Int) (ps : List Pr) (s4 s5 s6 : Sl), Free s4 → Free s5 → Free s6 → (∀ i ∈ is, -1 ≤ i ∧ i < many) → Good (ps ++ rowsP fit many is) →
    ∃ t4 t5 t6, forL (fun x r2 => (asn (.n 4 false) (.d x) r2).bind fun _ r3 => evB call W f33_b1 r3) (is.map PyData.int) [.val v, .val (.int m), .val (.int many), .own (pD ps), s4, s5, s6] = .ok .nx [.val v, .val (.int m), .val (.int many), .own (pD (ps ++ rowsP fit many is)), t4, t5, t6]
  | [], ps, s4, s5, s6, h4, h5, h6, hi, hg => ⟨s4, s5, s6, by show Res.ok Fl.nx _ = _; rw [show rowsP fit many [] = [] from rfl, List.append_nil]⟩
  | i :: is, ps, s4, s5, s6, h4, h5, h6, hi, hg => by
    have hi0 := hi i List.mem_cons_self
    have er : rowsP fit many (i :: is) = rowP fit i (inR (i + 1) ((many : Int) - (i + 1)).toNat) ++ rowsP fit many is := rfl
    rw [er, ← List.append_assoc] at hg ⊢
    obtain ⟨t5, t6, g5, g6, e⟩ := in37 call fit (fun j h1 h2 => hcall i j hi0.1 h1 h2) (inR (i + 1) ((many : Int) - (i + 1)).toNat) ps s5 s6 h5 h6 (fun j hj => by have := mem_inR.mp hj; omega) (good_sub (List.sublist_append_left _ _) hg)
    obtain ⟨u4, u5, u6, e2⟩ := out37 hm hcall is (ps ++ rowP fit i (inR (i + 1) ((many : Int) - (i + 1)).toNat)) (.val (.int i)) t5 t6 (.inr ⟨_, rfl⟩) g5 g6 (fun x hx => hi x (List.mem_cons_of_mem _ hx)) hg
    refine ⟨u4, u5, u6, ?_⟩
    have el : evS call W f33_l0 [.val v, .val (.int m), .val (.int many), .own (pD ps), .val (.int i), s5, s6] = .ok .nx [.val v, .val (.int m), .val (.int many), .own (pD (ps ++ rowP fit i (inR (i + 1) ((many : Int) - (i + 1)).toNat))), .val (.int i), t5, t6] := by
      rw [show f33_l0 = IS.fr (.n 5 false) (.rg2 (.bin .add (.var 4) (.cst (.int 1))) (.var 2)) f33_b0 from rfl, s_for, rg37 call v (.int m) (pD ps) (.int i) many hm i rfl hi0 s5 s6, bind_ok']
      exact e
    rw [List.map_cons, for_nx (b37o call v (.int m) (.int many) (pD ps) _ (.int i) s4 s5 s6 t5 t6 h4 el), e2]
theorem rg20o (v m : D) (A : Sl) (many : Nat) (hm : many ≤ 6) (s4 s5 s6 : Sl) : evI call (.rg2 (.neg (.cst (.int 1))) (.var 2)) [.val v, .val m, .val (.int many), A, s4, s5, s6] = .ok ((inR (-1) (many + 1)).map PyData.int) [.val v, .val m, .val (.int many), A, s4, s5, s6] := by
  have := rg2_in (call := call) (x := .neg (.cst (.int 1))) (y := .var 2) (r := [.val v, .val m, .val (.int many), A, s4, s5, s6]) (i := -1) (j := many) (by simp! []) (by simp! []) (by omega) (by omega)
  rw [show ((many : Int) - -1).toNat = many + 1 by omega] at this
  exact this
theorem en37 (v m : D) (many : Int) (PL : List D) (B : D) (t4 t5 t6 : Sl) (e1 : call 30 [.val v] = .ok true (.list PL) []) (e2 : b1 .len (.list PL) = some (.d (.int many))) (el : evS call W f33_l1 [.val v, .val m, .val (.int many), .own (pD []), .un, .un, .un] = .ok .nx [.val v, .val m, .val (.int many), .own B, t4, t5, t6]) :
    endK [.val v, .val m] (evB call W f33.body ([.val v, .val m] ++ List.replicate (f33.names.length - f33.np) .un)) = .ok true B [] := by
  have eb : f33.body = (.cons (.asp [(.n 2 false), (.n 3 true)] (.cons (.bl1 .len (.call 30 "_law_places" (.cons (.var 0) .nil))) (.cons (.emp true) .nil))) (.cons f33_l1 (.cons (.ret (.var 3)) .nil))) := rfl
  rw [eb]
  have e0 : PyData.dict [markT] = pD [] := rfl
  simp! [f33, e1, e2, e0, el]
  rfl
theorem en20 (v m : D) (many : Int) (PL : List D) (B : D) (t4 t5 t6 : Sl) (e1 : call 7 [.val v] = .ok true (.list PL) []) (e2 : b1 .len (.list PL) = some (.d (.int many))) (el : evS call W f17_l1 [.val v, .val m, .val (.int many), .val (pD []), .un, .un, .un] = .ok .nx [.val v, .val m, .val (.int many), .val B, t4, t5, t6]) :
    endK [.val v, .val m] (evB call W f17.body ([.val v, .val m] ++ List.replicate (f17.names.length - f17.np) .un)) = .ok false B [] := by
  have eb : f17.body = (.cons (.asp [(.n 2 false), (.n 3 false)] (.cons (.bl1 .len (.call 7 "places_at" (.cons (.var 0) .nil))) (.cons (.emp true) .nil))) (.cons f17_l1 (.cons (.ret (.var 3)) .nil))) := rfl
  rw [eb]
  have e0 : PyData.dict [markT] = pD [] := rfl
  simp! [f17, e1, e2, e0, el]
end
def fitF (l : List Th) (m : Int) : Int → Int → Option (Int × Int) := fun i j => fitM (lineP l i j.toNat) m
def manyM (l : List Th) : Nat := (plM l).length
theorem len_pl (l : List Th) : b1 .len (.list ((plM l).map fun n : Nat => PyData.int n)) = some (.d (.int (manyM l))) := by
  rw [len_lstD, List.length_map]; rfl
theorem call19 {N : Nat} (hN : 12 ≤ N) {l : List Th} (h : Psg l) {m : Int} (hm : 0 ≤ m ∧ m ≤ 10) (i j : Int) (h1 : -1 ≤ i) (h2 : i < j) (h3 : j < manyM l) : callN P W N 16 [.val (.tuple (encs l)), .val (.int m), .val (.int i), .val (.int j)] = .ok false (optP (fitF l m i j)) [] := by
  obtain ⟨n, rfl⟩ : ∃ n : Nat, j = n := ⟨j.toNat, by omega⟩
  exact fit19 hN (Nat.le_refl _) l h.wf (by have := h.cnt; omega) i n h1 h2 (by unfold manyM at h3; omega) m hm
theorem call34 {N : Nat} (hN : 12 ≤ N) {l : List Th} (h : Psg l) (i j : Int) (h1 : -1 ≤ i) (h2 : i < j) (h3 : j < manyM l) : callN P W N 31 [.val (.tuple (encs l)), .val (.int i), .val (.int j)] = .ok false (.tuple (encs (lineP l i j.toNat))) [] := by
  obtain ⟨n, rfl⟩ : ∃ n : Nat, j = n := ⟨j.toNat, by omega⟩
  exact line34 (by omega) l h.wf (by have := h.cnt; omega) i n h1 h2 (by unfold manyM at h3; omega)
theorem line_ok {l : List Th} (h : Psg l) (i : Int) (j : Nat) : wfs (lineP l i j) 2 ∧ cnts (lineP l i j) ≤ 60 :=
  ⟨sub_wf (seg_sub l i j) h.wf, Nat.le_trans (cnts_sub (seg_sub l i j)) h.cnt⟩
theorem all20 {N : Nat} (hN : 13 ≤ N) {l : List Th} (h : Psg l) {m : Int} (hm : 0 ≤ m ∧ m ≤ 10) : callN P W N 17 [.val (.tuple (encs l)), .val (.int m)] = .ok false (pD (allP (fitF l m) (manyM l))) [] := by
  obtain ⟨M, rfl⟩ : ∃ M, N = M + 1 := ⟨N - 1, by omega⟩
  have hp : manyM l ≤ 6 := h.pl
  obtain ⟨t4, t5, t6, e⟩ := out20 (fitF l m) (N := M) (v := .tuple (encs l)) (m := m) hp (fun i j h1 h2 h3 => call19 (by omega) h hm i j h1 h2 h3) (inR (-1) (manyM l + 1)) [] .un .un .un (.inl rfl) (.inl rfl) (.inl rfl) (fun i hi => by have := mem_inR.mp hi; omega) (all_good _ hp)
  rw [step (df := f17) rfl rfl]
  refine en20 _ _ _ _ _ _ t4 t5 t6 (places7 (by omega) l (by have := h.cnt; omega)) (len_pl l) ?_
  rw [show f17_l1 = IS.fr (.n 4 false) (.rg2 (.neg (.cst (.int 1))) (.var 2)) f17_b1 from rfl, s_for, rg20o _ _ _ _ _ hp, bind_ok']
  exact e
theorem pairs37 {N : Nat} (hN : 13 ≤ N) {l : List Th} (h : Psg l) {m : Int} (hm : 0 ≤ m ∧ m ≤ 10) : callN P W N 33 [.val (.tuple (encs l)), .val (.int m)] = .ok true (pD (allP (fitF l m) (manyM l))) [] := by
  obtain ⟨M, rfl⟩ : ∃ M, N = M + 1 := ⟨N - 1, by omega⟩
  have hp : manyM l ≤ 6 := h.pl
  obtain ⟨t4, t5, t6, e⟩ := out37 (callN P W M) (fitF l m) (v := .tuple (encs l)) (m := m) hp (fun i j h1 h2 h3 => ⟨_, call34 (by omega) h i j h1 h2 h3, pair36 (d := 2) (by omega) (Nat.le_refl _) _ (line_ok h i j.toNat).1 (by have := (line_ok h i j.toNat).2; omega) m hm⟩) (inR (-1) (manyM l + 1)) [] .un .un .un (.inl rfl) (.inl rfl) (.inl rfl) (fun i hi => by have := mem_inR.mp hi; omega) (all_good _ hp)
  rw [step (df := f33) rfl rfl]
  refine en37 _ _ _ _ _ _ t4 t5 t6 (places33 (by omega) l (by have := h.cnt; omega)) (len_pl l) ?_
  rw [show f33_l1 = IS.fr (.n 4 false) (.rg2 (.neg (.cst (.int 1))) (.var 2)) f33_b1 from rfl, s_for, rg20o _ _ _ _ _ hp, bind_ok']
  exact e
end K65

end
section
set_option maxRecDepth 100000
local macro_rules | `(tactic| simp! [$ts,*]) => `(tactic| simp only [Ev.bind_ok', Ev.bind_stuck', Ev.bind_ite, Ev.of_some', Ev.of_none', Ev.of_ite, Ev.slD_val, Ev.slD_own, Ev.slD_bor, Ev.deref_d, Ev.deref_f, Ev.deref_s, Ev.tru_eq, Ev.truS_some, Ev.truth_bool, Ev.truth_int, Ev.truth_list, Ev.truth_tuple, Ev.un1S_some, Ev.bi2S_some, Ev.andK_b, Ev.orK_b, Ev.negK_i, Ev.varK_val, Ev.varK_own, Ev.varK_bor, Ev.solS_val, Ev.solS_own, Ev.sol_d, Ev.sol_f, Ev.sol_s, Ev.muS_own, Ev.muS_bor, Ev.mutAt_eq, Ev.bop_add, Ev.bop_sub, Ev.bop_mul, Ev.bop_div, Ev.bop_mod, Ev.bop_tup, Ev.bop_lst, Ev.cop_lt, Ev.cop_le, Ev.cop_gt, Ev.cop_ge, Ev.cop_eqi, Ev.cop_eqs, Ev.cop_nei, Ev.cop_nes, Ev.cop_is, Ev.cop_isNot, Ev.cop_in, Ev.is_bb, Ev.e_none, Ev.e_bool, Ev.e_int, Ev.e_str, Ev.e_var, Ev.e_glob, Ev.e_bin, Ev.e_neg, Ev.e_cmp, Ev.chnS_some, Ev.e_chn, Ev.e_not, Ev.e_and, Ev.e_or, Ev.e_ife, Ev.e_tup, Ev.e_lst, Ev.e_idx, Ev.e_isi, Ev.e_bl1, Ev.e_bl2, Ev.callK_v, Ev.callK_f, Ev.callK_v1, Ev.callK_f1, Ev.callK_v2, Ev.argK_some, Ev.e_call, Ev.argsS_nil, Ev.argsS_v, Ev.argsS_l, Ev.lends_nil, Ev.lends_v, Ev.lends_l, Ev.a_nil, Ev.a_cons, Ev.r_nil, Ev.r_cons, Ev.lendK_some, Ev.r_lend, Ev.o_no, Ev.derK_some, Ev.o_yes, Ev.t_no, Ev.t_yes, Ev.i_val, Ev.slS_some, Ev.e_slc, Ev.opt_none, Ev.opt_int, Ev.slice_list, Ev.slice_tup, Ev.e_dsp, Ev.dicS_some, Ev.e_mg2, Ev.rgK_i, Ev.i_rg1, Ev.rgK2_i, Ev.i_rg2, Ev.enK_some, Ev.i_enm, Ev.zpK_some, Ev.i_zip, Ev.c_cst, Ev.c_var, Ev.c_cmp, Ev.c_chn, Ev.c_isi, Ev.c_call, Ev.c_bl1, Ev.c_not, Ev.c_and, Ev.c_or, Ev.c_ife, Ev.seqK_nx, Ev.seqK_brk, Ev.seqK_cnt, Ev.seqK_ret, Ev.seqK_exc, Ev.seqK_stuck, Ev.seqK_ite, Ev.b_nil, Ev.b_cons, Ev.retK_d, Ev.retK_f, Ev.s_ret, Ev.s_retN, Ev.s_asg, Ev.s_ex, Ev.s_if, Ev.s_for, Ev.s_whl, Ev.s_pas, Ev.s_rse, Ev.stoK_un, Ev.stoK_val, Ev.stoK_own, Ev.asn_d, Ev.asn_f, Ev.asn_fo, Ev.asn_t, Ev.asnL_nil, Ev.asnL_cons, Ev.asnP_nil, Ev.asnP_cons, Ev.s_asp, Ev.fK_f, Ev.fK_d, Ev.fK_s, Ev.f_nil, Ev.f_cons, Ev.lendF_some, Ev.setS_own, Ev.setS_bor, Ev.setAt_eq, Ev.ixK_some, Ev.setK_l, Ev.s_sto, Ev.outs_nil, Ev.outs_v, Ev.outs_b, Ev.endK_nx, Ev.endK_ret, Ev.endK_exc, Ev.endK_stuck, Ev.endK_ite, Ev.endS_some, Ev.endCall_eq, Ev.e_emp, Ev.e_din, Ev.e_dix, Ev.sdkS_some, Ev.e_sdk, Ev.e_tin, Ev.e_tix, Ev.e_tg1, Ev.e_tg2, Ev.e_sdt, Ev.c_din, Ev.c_tin, Ev.s_dst, Ev.s_tst, Ev.isN_none, Ev.isN_bool, Ev.isN_int, Ev.isN_str, Ev.isN_list, Ev.isN_tup, Ev.isN_dict, Ev.e_mg1, Ev.appL_l, Ev.appK_l, Ev.s_app, Ev.nd_none, Ev.ty_int_none, Ev.ty_bool_none, Ev.ty_str_none, Ev.ty_tuple_none, Ev.ty_list_none, Ev.nd_bool, Ev.ty_int_bool, Ev.ty_bool_bool, Ev.ty_str_bool, Ev.ty_tuple_bool, Ev.ty_list_bool, Ev.nd_int, Ev.ty_int_int, Ev.ty_bool_int, Ev.ty_str_int, Ev.ty_tuple_int, Ev.ty_list_int, Ev.nd_str, Ev.ty_int_str, Ev.ty_bool_str, Ev.ty_str_str, Ev.ty_tuple_str, Ev.ty_list_str, Ev.nd_list, Ev.ty_int_list, Ev.ty_bool_list, Ev.ty_str_list, Ev.ty_tuple_list, Ev.ty_list_list, Ev.nd_tup, Ev.ty_int_tup, Ev.ty_bool_tup, Ev.ty_str_tup, Ev.ty_tuple_tup, Ev.ty_list_tup, Ev.nd_dict, Ev.ty_int_dict, Ev.ty_bool_dict, Ev.ty_str_dict, Ev.ty_tuple_dict, Ev.ty_list_dict, List.getElem?_cons_zero, List.getElem?_cons_succ, List.getElem?_nil, List.set_cons_zero, List.set_cons_succ, List.length_cons, List.length_nil, List.replicate_succ, List.replicate_zero, List.cons_append, List.nil_append, List.append_nil, List.nodup_nil, List.nodup_cons, List.mem_cons, List.not_mem_nil, List.isEmpty_nil, List.isEmpty_cons, Option.map_some, Option.map_none, Option.bind_some, Option.bind_none, Option.getD_some, Option.getD_none, Option.isSome_some, Option.isSome_none, Option.isNone_some, Option.isNone_none, ite_true, ite_false, if_true, if_false, decide_true, decide_false, decide_eq_true_eq, Bool.not_true, Bool.not_false, Bool.not_not, Bool.true_and, Bool.false_and, Bool.and_true, Bool.and_false, Bool.or_true, Bool.or_false, Bool.true_or, Bool.false_or, Bool.not_eq_true, Bool.not_eq_true', Bool.and_self, Bool.or_self, Bool.false_eq_true, reduceCtorEq, not_true_eq_false, not_false_eq_true, or_false, false_or, or_true, true_or, and_true, true_and, and_false, false_and, eq_self, bne_self_eq_false, Nat.reduceAdd, Nat.reduceSub, Nat.reduceLeDiff, Nat.reduceLT, Nat.reduceEqDiff, Nat.zero_add, Nat.reduceMul, Int.reduceNeg, Int.reduceAdd, Int.reduceSub, Int.reduceMul, Int.reduceLT, Int.reduceLE, Int.reduceEq, Int.reduceDiv, Int.reduceMod, Int.reduceToNat, Int.reducePow, Nat.succ_ne_zero, Nat.add_eq_zero_iff, Nat.le_refl, Nat.one_ne_zero, ↓reduceIte, Ev.SZ, $ts,*])
set_option linter.all false
set_option maxRecDepth 100000
set_option maxHeartbeats 4000000
/-! The program's three answers; what the law asks of them. -/
namespace K65
open PySem Ev
section
variable (call : Nat → List Sl → CR)
end
def qF (l : List Th) (m w i j : Int) : Bool := inQ w (fitF l m i j)
theorem many_pos {l : List Th} (h : Psg l) : 0 < manyM l := by
  obtain ⟨t, n, ht⟩ := h.end_
  unfold manyM plM
  rw [List.length_map]
  have : ∀ (t : List Th) (k : Nat), ((k + t.length), Th.place n) ∈ enumL k (t ++ [.place n]) := fun t => by
    induction t with
    | nil => intro k; exact List.mem_cons_self
    | cons x t ih =>
      intro k
      have := ih (k + 1)
      refine List.mem_cons_of_mem _ ?_
      rw [show k + (x :: t).length = k + 1 + t.length by rw [List.length_cons]; omega]
      exact this
  have h2 := this t 0
  rw [← ht] at h2
  exact List.length_pos_of_mem (List.mem_filter.mpr ⟨h2, rfl⟩)
section
variable {N : Nat} {l : List Th} (h : Psg l) {m : Int} (hm : 0 ≤ m ∧ m ≤ 10)
include h hm
omit hm in
theorem hq21 (hN : 1 ≤ N) (w i j : Int) (h1 : -1 ≤ i) (h2 : i < j) (h3 : j < manyM l) : callN P W N 18 [.val (pD (allP (fitF l m) (manyM l))), .val (.int i), .val (.int j), .val (.int w)] = .ok false (.bool (qF l m w i j)) [] := by
  rw [fit21 hN, look_all _ h1 h2 h3]; rfl
omit hm in
theorem hq38 (hN : 1 ≤ N) (w i j : Int) (h1 : -1 ≤ i) (h2 : i < j) (h3 : j < manyM l) : callN P W N 34 [.val (pD (allP (fitF l m) (manyM l))), .val (.int i), .val (.int j), .val (.int w)] = .ok false (.bool (qF l m w i j)) [] := by
  rw [has38 hN, look_all _ h1 h2 h3]; rfl
end
/-! nothing fits a width below 0 -/
/-! the turns of the law -/
def insD (o : Option (Int × Int)) (x : Int) : Bool := inQ x o
section
variable (call : Nat → List Sl → CR)
end
end K65

end
section
set_option linter.all false
set_option maxRecDepth 100000
set_option maxHeartbeats 4000000
/-! Which widths part what is taken from what can be: judged at the ends, and at all widths. -/
namespace K65
open PySem Ev
theorem ways_none {q : Int → Int → Bool} (hq : ∀ i j, q i j = false) : ∀ n : Nat, waysM q n = [(-1, [])]
  | 0 => rfl
  | n + 1 => by
    show stepW q (waysM q n) n = _
    have : firstsM q (waysM q n) n = [] := by unfold firstsM; rw [List.filter_eq_nil_iff]; intro x _; rw [hq]; simp
    unfold stepW
    rw [this]
    exact ways_none hq n
def qP (ps : List Pr) (w i j : Int) : Bool := inQ w (lookP ps i j)
def parts (ps : List Pr) (many : Nat) (w : Int) : Bool := (lookW (waysM (qP ps w) many) ((many : Int) - 1)).isSome && (takM (qP ps w) many many (-1) []).isNone
def endsP (ps : List Pr) : List Int := ps.map (fun p => p.2.1) ++ ps.map (fun p => p.2.2 + 1)
def partM (ps : List Pr) (many : Nat) : Option Int := (sortU (endsP ps)).find? (parts ps many)
structure Okp (ps : List Pr) : Prop where
  nd : (ps.map (·.1)).Nodup
  rng : ∀ p ∈ ps, 0 ≤ p.2.1 ∧ p.2.1 ≤ p.2.2 ∧ p.2.2 ≤ 1000000000 ∧ p.2.1 ≤ 100000 ∧ (p.2.2 < 1000000000 → p.2.2 ≤ 100000)
theorem qP_some {ps : List Pr} (h : Okp ps) {w i j : Int} : qP ps w i j = true ↔ ∃ p ∈ ps, p.1 = (i, j) ∧ p.2.1 ≤ w ∧ w ≤ p.2.2 := by
  unfold qP
  constructor
  · intro z
    cases e : lookP ps i j with
    | none => rw [e] at z; cases z
    | some q =>
      rw [e] at z
      have z' : (decide (q.1 ≤ w) && decide (w ≤ q.2)) = true := z
      rw [Bool.and_eq_true, decide_eq_true_eq, decide_eq_true_eq] at z'
      exact ⟨((i, j), q), (lookP_iff h.nd i j q).mp e, rfl, z'⟩
  · rintro ⟨⟨⟨i', j'⟩, q⟩, hp, e, z⟩
    cases e
    rw [(lookP_iff h.nd i j q).mpr hp]
    show (decide (q.1 ≤ w) && decide (w ≤ q.2)) = true
    rw [Bool.and_eq_true, decide_eq_true_eq, decide_eq_true_eq]
    exact z
theorem parts_none {ps : List Pr} {many : Nat} (hm : 0 < many) {w : Int} (h : ∀ i j, qP ps w i j = false) : parts ps many w = false := by
  unfold parts
  rw [ways_none h]
  have : (lookW [((-1 : Int), ([] : List Int))] ((many : Int) - 1)).isSome = false := by
    rw [lookW_some, decide_eq_false_iff_not]
    simp
    omega
  rw [this]
  rfl
theorem parts_end {ps : List Pr} (h : Okp ps) {many : Nat} (hm : 0 < many) {w : Int} (hp : parts ps many w = true) : ∃ e ∈ endsP ps, parts ps many e = true := by
  have some : ∃ p ∈ ps, p.2.1 ≤ w := by
    apply Classical.byContradiction
    intro no
    rw [parts_none hm fun i j => ?_] at hp
    · cases hp
    · cases e : qP ps w i j with
      | false => rfl
      | true =>
        obtain ⟨p, h1, _, h2, _⟩ := (qP_some h).mp e
        exact absurd ⟨p, h1, h2⟩ no
  obtain ⟨p0, hp0, hw0⟩ := some
  have m0 : p0.2.1 ∈ (endsP ps).filter fun e => decide (e ≤ w) := List.mem_filter.mpr ⟨List.mem_append_left _ (List.mem_map.mpr ⟨p0, hp0, rfl⟩), by simpa using hw0⟩
  obtain ⟨e, he, hmax⟩ : ∃ e ∈ (endsP ps).filter fun e => decide (e ≤ w), ∀ x ∈ (endsP ps).filter (fun e => decide (e ≤ w)), x ≤ e := by
    cases hE : (endsP ps).filter fun e => decide (e ≤ w) with
    | nil => rw [hE] at m0; cases m0
    | cons x r =>
      obtain ⟨k1, k2, k3⟩ := maxL_spec r x
      refine ⟨maxL x r, ?_, fun y hy => ?_⟩
      · rcases k1 with k | k
        · rw [k]; exact List.mem_cons_self
        · exact List.mem_cons_of_mem _ k
      · rcases List.mem_cons.mp hy with rfl | hy
        · exact k2
        · exact k3 y hy
  obtain ⟨he1, he2⟩ := List.mem_filter.mp he
  have he2 : e ≤ w := by simpa using he2
  have same : qP ps e = qP ps w := by
    funext i j
    rw [Bool.eq_iff_iff, qP_some h, qP_some h]
    constructor
    · rintro ⟨p, h1, h2, h3, h4⟩
      refine ⟨p, h1, h2, by omega, ?_⟩
      apply Classical.byContradiction
      intro no
      have := hmax (p.2.2 + 1) (List.mem_filter.mpr ⟨List.mem_append_right _ (List.mem_map.mpr ⟨p, h1, rfl⟩), by simp; omega⟩)
      omega
    · rintro ⟨p, h1, h2, h3, h4⟩
      have := hmax p.2.1 (List.mem_filter.mpr ⟨List.mem_append_left _ (List.mem_map.mpr ⟨p, h1, rfl⟩), by simpa using h3⟩)
      exact ⟨p, h1, h2, this, by omega⟩
  refine ⟨e, he1, ?_⟩
  unfold parts at hp ⊢
  rw [same]
  exact hp
/-! the law's widths -/
def fins (ps : List Pr) : List Int := (ps.filter fun p => decide (p.2.2 < 1000000000)).map fun p => p.2.2
def los (ps : List Pr) : List Int := ps.map fun p => p.2.1
def highL (ps : List Pr) : Int := maxL 0 (fins ps ++ los ps)
def widthsL (ps : List Pr) : List Int := inR 0 (highL ps + 2).toNat ++ [1000000000]
theorem high_b {ps : List Pr} (h : Okp ps) : 0 ≤ highL ps ∧ highL ps ≤ 100000 := by
  obtain ⟨k1, k2, k3⟩ := maxL_spec (fins ps ++ los ps) 0
  refine ⟨k2, ?_⟩
  unfold highL
  rcases k1 with k | k
  · omega
  · rcases List.mem_append.mp k with z | z
    · obtain ⟨p, hp, e⟩ := List.mem_map.mp z
      obtain ⟨hp, hf⟩ := List.mem_filter.mp hp
      have := (h.rng p hp).2.2.2.2 (by simpa using hf)
      omega
    · obtain ⟨p, hp, e⟩ := List.mem_map.mp z
      have := (h.rng p hp).2.2.2.1
      omega
theorem end_width {ps : List Pr} (h : Okp ps) {many : Nat} (hm : 0 < many) {e : Int} (he : e ∈ endsP ps) (hp : parts ps many e = true) : e ∈ widthsL ps := by
  obtain ⟨k1, k2, k3⟩ := maxL_spec (fins ps ++ los ps) 0
  have hi : ∀ x ∈ fins ps ++ los ps, x ≤ highL ps := k3
  unfold widthsL
  refine List.mem_append_left _ (mem_inR.mpr ?_)
  rcases List.mem_append.mp he with z | z
  · obtain ⟨p, h1, rfl⟩ := List.mem_map.mp z
    have := hi p.2.1 (List.mem_append_right _ (List.mem_map.mpr ⟨p, h1, rfl⟩))
    have := h.rng p h1
    omega
  · obtain ⟨p, h1, rfl⟩ := List.mem_map.mp z
    have hr := h.rng p h1
    by_cases hf : p.2.2 < 1000000000
    · have := hi p.2.2 (List.mem_append_left _ (List.mem_map.mpr ⟨p, List.mem_filter.mpr ⟨h1, by simpa using hf⟩, rfl⟩))
      omega
    · rw [parts_none hm fun i j => ?_] at hp
      · cases hp
      · cases e : qP ps (p.2.2 + 1) i j with
        | false => rfl
        | true =>
          obtain ⟨p', h1', _, _, h3⟩ := (qP_some h).mp e
          have := h.rng p' h1'
          omega
theorem part_iff {ps : List Pr} (h : Okp ps) {many : Nat} (hm : 0 < many) : (widthsL ps).any (parts ps many) = (partM ps many).isSome := by
  rw [Bool.eq_iff_iff, List.any_eq_true]
  unfold partM
  rw [List.find?_isSome]
  constructor
  · rintro ⟨w, _, hw⟩
    obtain ⟨e, he, hp⟩ := parts_end h hm hw
    exact ⟨e, (mem_sortU e _).mpr he, hp⟩
  · rintro ⟨e, he, hp⟩
    exact ⟨e, end_width h hm ((mem_sortU e _).mp he) hp, hp⟩
theorem part_some {ps : List Pr} (h : Okp ps) {many : Nat} (hm : 0 < many) {w : Int} (e : partM ps many = some w) : parts ps many w = true ∧ 0 ≤ w ∧ w ≤ 1000000000 := by
  unfold partM at e
  have h1 : parts ps many w = true := List.find?_some e
  have h2 := end_width h hm ((mem_sortU w _).mp (List.mem_of_find?_eq_some e)) h1
  refine ⟨h1, ?_⟩
  have hb := high_b h
  rcases List.mem_append.mp h2 with z | z
  · have := mem_inR.mp z
    omega
  · have := List.mem_singleton.mp z
    omega
/-! the pairs of a passage -/
mutual
theorem wd_b31 : ∀ (t : Th) (d : Nat), wf t d → wd t ≤ 31 * (cnt t : Int)
  | .sign s, _, _ => by show (10 : Int) ≤ 31 * ((1 : Nat) : Int); omega
  | .kern n, _, h => by
    have h : -7 ≤ n ∧ n ≤ 31 := h
    show n ≤ 31 * ((1 : Nat) : Int)
    omega
  | .place n, _, _ => by show (0 : Int) ≤ 31 * ((1 : Nat) : Int); omega
  | .space w a o b p, _, h => by
    have h := h.1
    show w ≤ 31 * ((1 : Nat) : Int)
    omega
  | .box l, d, h => by
    have := wds_b31 l (d - 1) h.2
    show wds l ≤ 31 * ((cnts l + 1 : Nat) : Int)
    omega
theorem wds_b31 : ∀ (l : List Th) (d : Nat), wfs l d → wds l ≤ 31 * (cnts l : Int)
  | [], _, _ => by show (0 : Int) ≤ 31 * ((0 : Nat) : Int); omega
  | t :: l, d, h => by
    have h1 := wd_b31 t d h.1
    have h2 := wds_b31 l d h.2
    show wd t + wds l ≤ 31 * ((cnt t + cnts l : Nat) : Int)
    omega
end
theorem am_sum (up : Bool) {d : Nat} : ∀ l : List Th, wfs l d → 0 ≤ ((l.filter isSp).map (am up)).sum ∧ ((l.filter isSp).map (am up)).sum ≤ 15 * (cnts l : Int)
  | [], _ => by simp [cnts]
  | t :: l, h => by
    have ih := am_sum up l h.2
    have hc : cnts (t :: l) = cnt t + cnts l := rfl
    rw [hc]
    by_cases ht : isSp t = true
    · have hb := am_b up h.1
      have h1 : 1 ≤ cnt t := by cases t <;> first | exact Nat.le_refl _ | (show 1 ≤ _ + 1; omega)
      rw [List.filter_cons_of_pos ht, List.map_cons, List.sum_cons]
      omega
    · rw [List.filter_cons_of_neg ht]
      omega
theorem fit_b {l : List Th} {d : Nat} (hw : wfs l d) (hc : cnts l ≤ 60) {m : Int} (hm : 0 ≤ m ∧ m ≤ 10) {q : Int × Int} (h : fitM l m = some q) : 0 ≤ q.1 ∧ q.1 ≤ q.2 ∧ q.2 ≤ 1000000000 ∧ q.1 ≤ 100000 ∧ (q.2 < 1000000000 → q.2 ≤ 100000) := by
  unfold fitM at h
  split at h
  · rename_i hle
    cases h
    have hb := wds_b31 l d hw
    have h1 : 0 ≤ loM l ∧ loM l ≤ 100000 := by
      unfold loM slackM
      have := am_sum false l hw
      split
      · omega
      · rename_i s hs
        split at hs
        · cases hs
        · cases hs
          split <;> omega
    have h2 : hiM l m ≤ 1000000000 ∧ (hiM l m < 1000000000 → hiM l m ≤ 100000) := by
      unfold hiM slackM
      have hs := am_sum true l hw
      split
      · omega
      · rename_i s hs'
        split at hs'
        · cases hs'
        · cases hs'
          have : m * ((l.filter isSp).map (am true)).sum ≤ 10 * 900 := Int.mul_le_mul hm.2 (by omega) hs.1 (by decide)
          split <;> omega
    exact ⟨h1.1, hle, h2.1, h1.2, h2.2⟩
  · cases h
theorem okp_all {l : List Th} (h : Psg l) {m : Int} (hm : 0 ≤ m ∧ m ≤ 10) : Okp (allP (fitF l m) (manyM l)) where
  nd := rowsP_nodup _ _ _ (inR_nodup _ _)
  rng := fun p hp => by
    obtain ⟨_, _, _, e⟩ := (mem_rowsP _).mp hp
    obtain ⟨h1, h2⟩ := line_ok h p.1.1 p.1.2.toNat
    exact fit_b h1 h2 hm e
def keysU : List (Int × Int) := keysL.filter fun k => decide (k.1 < k.2)
theorem len_all (l : List Th) (m : Int) (hp : manyM l ≤ 6) : (allP (fitF l m) (manyM l)).length ≤ 21 := by
  have := nodup_len ((allP (fitF l m) (manyM l)).map (·.1)) keysU (rowsP_nodup _ _ _ (inR_nodup _ _)) fun x hx => by
    obtain ⟨⟨⟨i, j⟩, q⟩, hp', rfl⟩ := List.mem_map.mp hx
    obtain ⟨h1, h2, h3, _⟩ := (mem_rowsP _).mp hp'
    have h1' : i ∈ inR (-1) (manyM l + 1) := h1
    have h1' := mem_inR.mp h1'
    have h2 : i < j := h2
    have h3 : j < manyM l := h3
    exact List.mem_filter.mpr ⟨mem_keysL (by omega), by simpa using h2⟩
  rw [List.length_map] at this
  have e : keysU.length = 21 := by decide +kernel
  omega
end K65

end
section
set_option maxRecDepth 100000
local macro_rules | `(tactic| simp! [$ts,*]) => `(tactic| simp only [Ev.bind_ok', Ev.bind_stuck', Ev.bind_ite, Ev.of_some', Ev.of_none', Ev.of_ite, Ev.slD_val, Ev.slD_own, Ev.slD_bor, Ev.deref_d, Ev.deref_f, Ev.deref_s, Ev.tru_eq, Ev.truS_some, Ev.truth_bool, Ev.truth_int, Ev.truth_list, Ev.truth_tuple, Ev.un1S_some, Ev.bi2S_some, Ev.andK_b, Ev.orK_b, Ev.negK_i, Ev.varK_val, Ev.varK_own, Ev.varK_bor, Ev.solS_val, Ev.solS_own, Ev.sol_d, Ev.sol_f, Ev.sol_s, Ev.muS_own, Ev.muS_bor, Ev.mutAt_eq, Ev.bop_add, Ev.bop_sub, Ev.bop_mul, Ev.bop_div, Ev.bop_mod, Ev.bop_tup, Ev.bop_lst, Ev.cop_lt, Ev.cop_le, Ev.cop_gt, Ev.cop_ge, Ev.cop_eqi, Ev.cop_eqs, Ev.cop_nei, Ev.cop_nes, Ev.cop_is, Ev.cop_isNot, Ev.cop_in, Ev.is_bb, Ev.e_none, Ev.e_bool, Ev.e_int, Ev.e_str, Ev.e_var, Ev.e_glob, Ev.e_bin, Ev.e_neg, Ev.e_cmp, Ev.chnS_some, Ev.e_chn, Ev.e_not, Ev.e_and, Ev.e_or, Ev.e_ife, Ev.e_tup, Ev.e_lst, Ev.e_idx, Ev.e_isi, Ev.e_bl1, Ev.e_bl2, Ev.callK_v, Ev.callK_f, Ev.callK_v1, Ev.callK_f1, Ev.callK_v2, Ev.argK_some, Ev.e_call, Ev.argsS_nil, Ev.argsS_v, Ev.argsS_l, Ev.lends_nil, Ev.lends_v, Ev.lends_l, Ev.a_nil, Ev.a_cons, Ev.r_nil, Ev.r_cons, Ev.lendK_some, Ev.r_lend, Ev.o_no, Ev.derK_some, Ev.o_yes, Ev.t_no, Ev.t_yes, Ev.i_val, Ev.slS_some, Ev.e_slc, Ev.opt_none, Ev.opt_int, Ev.slice_list, Ev.slice_tup, Ev.e_dsp, Ev.dicS_some, Ev.e_mg2, Ev.rgK_i, Ev.i_rg1, Ev.rgK2_i, Ev.i_rg2, Ev.enK_some, Ev.i_enm, Ev.zpK_some, Ev.i_zip, Ev.c_cst, Ev.c_var, Ev.c_cmp, Ev.c_chn, Ev.c_isi, Ev.c_call, Ev.c_bl1, Ev.c_not, Ev.c_and, Ev.c_or, Ev.c_ife, Ev.seqK_nx, Ev.seqK_brk, Ev.seqK_cnt, Ev.seqK_ret, Ev.seqK_exc, Ev.seqK_stuck, Ev.seqK_ite, Ev.b_nil, Ev.b_cons, Ev.retK_d, Ev.retK_f, Ev.s_ret, Ev.s_retN, Ev.s_asg, Ev.s_ex, Ev.s_if, Ev.s_for, Ev.s_whl, Ev.s_pas, Ev.s_rse, Ev.stoK_un, Ev.stoK_val, Ev.stoK_own, Ev.asn_d, Ev.asn_f, Ev.asn_fo, Ev.asn_t, Ev.asnL_nil, Ev.asnL_cons, Ev.asnP_nil, Ev.asnP_cons, Ev.s_asp, Ev.fK_f, Ev.fK_d, Ev.fK_s, Ev.f_nil, Ev.f_cons, Ev.lendF_some, Ev.setS_own, Ev.setS_bor, Ev.setAt_eq, Ev.ixK_some, Ev.setK_l, Ev.s_sto, Ev.outs_nil, Ev.outs_v, Ev.outs_b, Ev.endK_nx, Ev.endK_ret, Ev.endK_exc, Ev.endK_stuck, Ev.endK_ite, Ev.endS_some, Ev.endCall_eq, Ev.e_emp, Ev.e_din, Ev.e_dix, Ev.sdkS_some, Ev.e_sdk, Ev.e_tin, Ev.e_tix, Ev.e_tg1, Ev.e_tg2, Ev.e_sdt, Ev.c_din, Ev.c_tin, Ev.s_dst, Ev.s_tst, Ev.isN_none, Ev.isN_bool, Ev.isN_int, Ev.isN_str, Ev.isN_list, Ev.isN_tup, Ev.isN_dict, Ev.e_mg1, Ev.appL_l, Ev.appK_l, Ev.s_app, Ev.nd_none, Ev.ty_int_none, Ev.ty_bool_none, Ev.ty_str_none, Ev.ty_tuple_none, Ev.ty_list_none, Ev.nd_bool, Ev.ty_int_bool, Ev.ty_bool_bool, Ev.ty_str_bool, Ev.ty_tuple_bool, Ev.ty_list_bool, Ev.nd_int, Ev.ty_int_int, Ev.ty_bool_int, Ev.ty_str_int, Ev.ty_tuple_int, Ev.ty_list_int, Ev.nd_str, Ev.ty_int_str, Ev.ty_bool_str, Ev.ty_str_str, Ev.ty_tuple_str, Ev.ty_list_str, Ev.nd_list, Ev.ty_int_list, Ev.ty_bool_list, Ev.ty_str_list, Ev.ty_tuple_list, Ev.ty_list_list, Ev.nd_tup, Ev.ty_int_tup, Ev.ty_bool_tup, Ev.ty_str_tup, Ev.ty_tuple_tup, Ev.ty_list_tup, Ev.nd_dict, Ev.ty_int_dict, Ev.ty_bool_dict, Ev.ty_str_dict, Ev.ty_tuple_dict, Ev.ty_list_dict, List.getElem?_cons_zero, List.getElem?_cons_succ, List.getElem?_nil, List.set_cons_zero, List.set_cons_succ, List.length_cons, List.length_nil, List.replicate_succ, List.replicate_zero, List.cons_append, List.nil_append, List.append_nil, List.nodup_nil, List.nodup_cons, List.mem_cons, List.not_mem_nil, List.isEmpty_nil, List.isEmpty_cons, Option.map_some, Option.map_none, Option.bind_some, Option.bind_none, Option.getD_some, Option.getD_none, Option.isSome_some, Option.isSome_none, Option.isNone_some, Option.isNone_none, ite_true, ite_false, if_true, if_false, decide_true, decide_false, decide_eq_true_eq, Bool.not_true, Bool.not_false, Bool.not_not, Bool.true_and, Bool.false_and, Bool.and_true, Bool.and_false, Bool.or_true, Bool.or_false, Bool.true_or, Bool.false_or, Bool.not_eq_true, Bool.not_eq_true', Bool.and_self, Bool.or_self, Bool.false_eq_true, reduceCtorEq, not_true_eq_false, not_false_eq_true, or_false, false_or, or_true, true_or, and_true, true_and, and_false, false_and, eq_self, bne_self_eq_false, Nat.reduceAdd, Nat.reduceSub, Nat.reduceLeDiff, Nat.reduceLT, Nat.reduceEqDiff, Nat.zero_add, Nat.reduceMul, Int.reduceNeg, Int.reduceAdd, Int.reduceSub, Int.reduceMul, Int.reduceLT, Int.reduceLE, Int.reduceEq, Int.reduceDiv, Int.reduceMod, Int.reduceToNat, Int.reducePow, Nat.succ_ne_zero, Nat.add_eq_zero_iff, Nat.le_refl, Nat.one_ne_zero, ↓reduceIte, Ev.SZ, $ts,*])
set_option linter.all false
set_option maxRecDepth 100000
set_option maxHeartbeats 4000000
/-! A drawn passage is a passage. -/
namespace K65
open PySem Ev
theorem pl_len : ∀ (l : List Th) (k : Nat), ((enumL k l).filter fun p => isPl p.2).length = (l.filter isPl).length
  | [], _ => rfl
  | t :: l, k => by
    show (List.filter (fun p : Nat × Th => isPl p.2) ((k, t) :: enumL (k + 1) l)).length = _
    rw [List.filter_cons, List.filter_cons]
    have := pl_len l (k + 1)
    cases h : isPl t with
    | true => simp [this]
    | false => simpa using this
theorem plM_len (l : List Th) : (plM l).length = (l.filter isPl).length := by
  unfold plM
  rw [List.length_map, pl_len]
theorem spcs_app : ∀ l k : List Th, spcs (l ++ k) = spcs l + spcs k
  | [], k => by simp [spcs]
  | t :: l, k => by
    show spc t + spcs (l ++ k) = spc t + spcs l + spcs k
    rw [spcs_app l k]
    omega
structure Pv (l : List Th) (k e : Nat) : Prop where
  wf : wfs l 2
  cnt : cnts l ≤ 10 * k + 3 * e
  spc : spcs l ≤ 3 * k + e
  pl : (l.filter isPl).length = k
theorem Pv.thing {l : List Th} {k e : Nat} (h : Pv l k e) {t : Th} (h1 : K65.wf t 2) (h2 : K65.cnt t ≤ 3) (h3 : K65.spc t ≤ 1) (h4 : isPl t = false) : Pv (l ++ [t]) k (e + 1) where
  wf := wfs_app _ _ _ h.wf ⟨h1, trivial⟩
  cnt := by
    have := h.cnt
    rw [cnts_app]
    show _ + (K65.cnt t + 0) ≤ _
    omega
  spc := by
    have := h.spc
    rw [spcs_app]
    show _ + (K65.spc t + 0) ≤ _
    omega
  pl := by
    rw [List.filter_append, List.length_append, h.pl]
    simp [h4]
theorem Pv.place {l : List Th} {k e : Nat} (h : Pv l k e) (he : e ≤ 3) {n : Int} (hn : 0 ≤ n ∧ n < 90) : Pv (l ++ [.place n]) (k + 1) 0 where
  wf := wfs_app _ _ _ h.wf ⟨hn, trivial⟩
  cnt := by
    have := h.cnt
    rw [cnts_app]
    show _ + (1 + 0) ≤ _
    omega
  spc := by
    have := h.spc
    rw [spcs_app]
    show _ + (0 + 0) ≤ _
    omega
  pl := by
    rw [List.filter_append, List.length_append, h.pl]
    rfl
theorem add_enc (l : List Th) (t : Th) (h : l.length ≤ 200) : bop .add (.tuple (encs l)) (.tuple [enc t]) = some (.d (.tuple (encs (l ++ [t])))) := by
  rw [bop_tup, encs_app]
  refine if_pos ?_
  rw [encs_len]
  exact Nat.le_trans (Nat.add_le_add_right h 1) (by decide)
section
variable (call : Nat → List Sl → CR)
theorem b0_32a (c c1 c2 c3 m L L2 x y : D) (t3 s4 s5 s6 : Sl) (j k : Int) (h5 : Free s5) (e1 : call 25 [.bor c, .val (.int 9)] = .ok false (.int j) [c1]) (hj : j < 3) (e2 : call 25 [.bor c1, .val (.int 30)] = .ok false (.int k) [c2])
    (e3 : call 26 [.bor c2, .val (.list [.tuple [.str "sign", .str "a"], .tuple [.str "box", .tuple [.tuple [.str "sign", .str "b"], .tuple [.str "kern", .int k]]], .tuple [.str "kern", .int 8]])] = .ok false x [c3]) (e4 : bop .add L (.tuple [x]) = some (.d L2)) :
    evB call W f29_b0 [.bor c, .val m, .val L, t3, s4, s5, s6] = .ok .nx [.bor c3, .val m, .val L2, t3, s4, .val (.int j), s6] := by
  simp! [f29_b0, sto_free h5, e1, hj, e2, e3, e4]
theorem b0_32b (c c1 c2 c3 c4 m L L2 L3 : D) (t3 s4 s5 s6 : Sl) (j q r w a o b p : Int) (h5 : Free s5) (h6 : Free s6) (e1 : call 25 [.bor c, .val (.int 9)] = .ok false (.int j) [c1]) (hj : ¬ j < 3) (hj2 : j < 8) (e2 : call 26 [.bor c1, .val (.list [.int 10, .int 15, .int 12])] = .ok false (.int q) [c2])
    (e3 : call 27 [.bor c2, .val (.int q)] = .ok false (enc (.space w a o b p)) [c3]) (e4 : call 25 [.bor c3, .val (.int 4)] = .ok false (.int r) [c4]) (e5 : bop .add L (.tuple [enc (.space w a o b p)]) = some (.d L2)) (e6 : bop .add L (.tuple [enc (.space w a 0 b 0)]) = some (.d L3)) :
    evB call W f29_b0 [.bor c, .val m, .val L, t3, s4, s5, s6] = .ok .nx [.bor c4, .val m, .val (if r = 0 then L2 else L3), t3, s4, .val (.int j), .val (enc (.space w a o b p))] := by
  have c3 : cut [.str "space", .int w, .int a, .int o, .int b, .int p] none (some 3) = [PyData.str "space", .int w, .int a] := by rfl
  have i4 : idx (.tuple [.str "space", .int w, .int a, .int o, .int b, .int p]) (.int 4) = some (.int b) := rfl
  simp only [enc] at *
  by_cases hr : r = 0
  · subst hr
    simp! [f29_b0, sto_free h5, sto_free h6, e1, hj, hj2, e2, e3, e4, e5, e6, c3, i4]
  · simp! [f29_b0, sto_free h5, sto_free h6, e1, hj, hj2, e2, e3, e4, e5, e6, c3, i4, hr]
theorem b0_32c (c c1 c2 m L L2 x : D) (t3 s4 s5 s6 : Sl) (j : Int) (h5 : Free s5) (e1 : call 25 [.bor c, .val (.int 9)] = .ok false (.int j) [c1]) (hj : ¬ j < 3) (hj2 : ¬ j < 8) (e3 : call 27 [.bor c1, .val (.int 9)] = .ok false x [c2]) (e4 : bop .add L (.tuple [.tuple [.str "box", .tuple [x, .tuple [.str "sign", .str "c"]]]]) = some (.d L2)) :
    evB call W f29_b0 [.bor c, .val m, .val L, t3, s4, s5, s6] = .ok .nx [.bor c2, .val m, .val L2, t3, s4, .val (.int j), s6] := by
  simp! [f29_b0, sto_free h5, e1, hj, hj2, e3, e4]
theorem b1_32 (c c1 c2 m L L2 L3 : D) (t3 s4 s5 s6 t4 t5 t6 : Sl) (n : Int) (el : evS call W f29_l0 [.bor c, .val m, .val L, t3, s4, s5, s6] = .ok .nx [.bor c1, .val m, .val L2, t3, t4, t5, t6]) (e1 : call 25 [.bor c1, .val (.int 50)] = .ok false (.int n) [c2]) (e2 : bop .add L2 (.tuple [.tuple [.str "place", .int n]]) = some (.d L3)) :
    evB call W f29_b1 [.bor c, .val m, .val L, t3, s4, s5, s6] = .ok .nx [.bor c2, .val m, .val L3, t3, t4, t5, t6] := by
  simp! [f29_b1, el, e1, e2]
end
theorem space2 {w a o b p : Int} {d e : Nat} (h : wf (.space w a o b p) d) : wf (.space w a o b p) e := h
theorem one32 {N : Nat} (hN : 3 ≤ N) {c : D} (hc : Cup c) (m : D) {l : List Th} {k e : Nat} (h : Pv l k e) (hl : k ≤ 6 ∧ e ≤ 3) (t3 s4 s5 s6 : Sl) (h5 : Free s5) (h6 : Free s6) :
    ∃ (c' : D) (t : Th) (t5 t6 : Sl), Cup c' ∧ Free t5 ∧ Free t6 ∧ Pv (l ++ [t]) k (e + 1) ∧ evB (callN P W N) W f29_b0 [.bor c, .val m, .val (.tuple (encs l)), t3, s4, s5, s6] = .ok .nx [.bor c', .val m, .val (.tuple (encs (l ++ [t]))), t3, s4, t5, t6] := by
  have hll : l.length ≤ 200 := by have := h.cnt; have := len_cnts l; omega
  obtain ⟨j, c1, e1, j0, j1, k1⟩ := roll_ge (N := N) (by omega) hc (k := 9) (by decide) (by decide)
  by_cases hj : j < 3
  · obtain ⟨q, c2, e2, q0, q1, k2⟩ := roll_ge (N := N) (by omega) k1 (k := 30) (by decide) (by decide)
    obtain ⟨x, c3, e3, hx, k3⟩ := some_ge (N := N) (by omega) k2 (l := [.tuple [.str "sign", .str "a"], .tuple [.str "box", .tuple [.tuple [.str "sign", .str "b"], .tuple [.str "kern", .int q]]], .tuple [.str "kern", .int 8]]) (by simp) (by simp)
    simp only [List.mem_cons, List.not_mem_nil, or_false] at hx
    have fin : ∀ t : Th, x = enc t → wf t 2 → cnt t ≤ 3 → spc t ≤ 1 → isPl t = false → ∃ (c' : D) (t : Th) (t5 t6 : Sl), Cup c' ∧ Free t5 ∧ Free t6 ∧ Pv (l ++ [t]) k (e + 1) ∧ evB (callN P W N) W f29_b0 [.bor c, .val m, .val (.tuple (encs l)), t3, s4, s5, s6] = .ok .nx [.bor c', .val m, .val (.tuple (encs (l ++ [t]))), t3, s4, t5, t6] := fun t ht g1 g2 g3 g4 => by
      rw [ht] at e3
      exact ⟨c3, t, _, _, k3, .inr ⟨_, rfl⟩, h6, h.thing g1 g2 g3 g4, b0_32a _ c c1 c2 c3 m _ _ _ (enc t) t3 s4 s5 s6 j q h5 e1 hj e2 e3 (add_enc l t hll)⟩
    rcases hx with rfl | rfl | rfl
    · exact fin (.sign "a") rfl (by show ("a" : Str) ∈ _; simp) (by decide) (by decide) rfl
    · refine fin (.box [.sign "b", .kern q]) rfl ⟨by decide, ?_, ?_, trivial⟩ (by show 1 + (1 + 0) + 1 ≤ 3; decide) (by show 0 + (0 + 0) ≤ 1; decide) rfl
      · show ("b" : Str) ∈ _; simp
      · show -7 ≤ q ∧ q ≤ 31; omega
    · exact fin (.kern 8) rfl (by show (-7 : Int) ≤ 8 ∧ (8 : Int) ≤ 31; decide) (by decide) (by decide) rfl
  · by_cases hj2 : j < 8
    · obtain ⟨q, c2, e2, hq, k2⟩ := some_ge (N := N) (by omega) k1 (l := [.int 10, .int 15, .int 12]) (by simp) (by simp)
      obtain ⟨q, rfl, hq'⟩ := int_mem (l := [10, 15, 12]) hq
      have hqb : 0 ≤ q ∧ q ≤ 15 := int_in (l := [10, 15, 12]) (lo := 0) (hi := 15) (by decide) hq'
      obtain ⟨w, a, o, b, p, c3, e3, g3, k3⟩ := space_ge (N := N) (by omega) k2 hqb
      obtain ⟨r, c4, e4, r0, r1, k4⟩ := roll_ge (N := N) (by omega) k3 (k := 4) (by decide) (by decide)
      have e := b0_32b (callN P W N) c c1 c2 c3 c4 m (.tuple (encs l)) _ _ t3 s4 s5 s6 j q r w a o b p h5 h6 e1 hj hj2 e2 e3 e4 (add_enc l (.space w a o b p) hll) (add_enc l (.space w a 0 b 0) hll)
      by_cases hr : r = 0
      · rw [if_pos hr] at e
        exact ⟨c4, .space w a o b p, _, _, k4, .inr ⟨_, rfl⟩, .inr ⟨_, rfl⟩, h.thing (space2 g3) (by show 1 ≤ 3; decide) (by show 1 ≤ 1; decide) rfl, e⟩
      · rw [if_neg hr] at e
        exact ⟨c4, .space w a 0 b 0, _, _, k4, .inr ⟨_, rfl⟩, .inr ⟨_, rfl⟩, h.thing ⟨g3.1, g3.2.1, by decide, g3.2.2.2.1, by decide⟩ (by show 1 ≤ 3; decide) (by show 1 ≤ 1; decide) rfl, e⟩
    · obtain ⟨w, a, o, b, p, c2, e3, g3, k3⟩ := space_ge (N := N) (by omega) k1 (q := 9) (by decide)
      have e := b0_32c (callN P W N) c c1 c2 m (.tuple (encs l)) _ _ t3 s4 s5 s6 j h5 e1 hj hj2 e3 (add_enc l (.box [.space w a o b p, .sign "c"]) hll)
      refine ⟨c2, .box [.space w a o b p, .sign "c"], _, _, k3, .inr ⟨_, rfl⟩, h6, h.thing ⟨by decide, space2 g3, ?_, trivial⟩ (by show 1 + (1 + 0) + 1 ≤ 3; decide) (by show 1 + (0 + 0) ≤ 1; decide) rfl, e⟩
      show ("c" : Str) ∈ _; simp
theorem in32 {N : Nat} (hN : 3 ≤ N) (m : D) (k : Nat) (hk : k ≤ 6) (t3 : Sl) : ∀ (xs : List D) (c : D) (l : List Th) (e : Nat) (s4 s5 s6 : Sl), Cup c → Pv l k e → e + xs.length ≤ 3 → Free s4 → Free s5 → Free s6 →
    ∃ (c' : D) (l' : List Th) (t4 t5 t6 : Sl), Cup c' ∧ Free t4 ∧ Free t5 ∧ Free t6 ∧ Pv l' k (e + xs.length) ∧ forL (fun x r2 => (asn (.n 4 false) (.d x) r2).bind fun _ r3 => evB (callN P W N) W f29_b0 r3) xs [.bor c, .val m, .val (.tuple (encs l)), t3, s4, s5, s6] = .ok .nx [.bor c', .val m, .val (.tuple (encs l')), t3, t4, t5, t6]
  | [], c, l, e, s4, s5, s6, hc, h, hl, h4, h5, h6 => ⟨c, l, s4, s5, s6, hc, h4, h5, h6, h, rfl⟩
  | x :: xs, c, l, e, s4, s5, s6, hc, h, hl, h4, h5, h6 => by
    rw [List.length_cons] at hl
    obtain ⟨c1, t, t5, t6, k1, g5, g6, hp, e1⟩ := one32 hN hc m h ⟨hk, by omega⟩ t3 (.val x) s5 s6 h5 h6
    obtain ⟨c2, l2, u4, u5, u6, k2, f4, f5, f6, hp2, e2⟩ := in32 hN m k hk t3 xs c1 (l ++ [t]) (e + 1) (.val x) t5 t6 k1 hp (by omega) (.inr ⟨_, rfl⟩) g5 g6
    refine ⟨c2, l2, u4, u5, u6, k2, f4, f5, f6, by rw [List.length_cons, show e + (xs.length + 1) = e + 1 + xs.length by omega]; exact hp2, ?_⟩
    have ea : asn (.n 4 false) (.d x) [.bor c, .val m, .val (.tuple (encs l)), t3, s4, s5, s6] = .ok () [.bor c, .val m, .val (.tuple (encs l)), t3, .val x, s5, s6] := by simp! [sto_free h4]
    rw [for_nx (r' := [.bor c1, .val m, .val (.tuple (encs (l ++ [t]))), t3, .val x, t5, t6]) (by rw [ea, bind_ok']; exact e1)]
    exact e2
theorem row32 {N : Nat} (hN : 3 ≤ N) {c : D} (hc : Cup c) (m : D) {l : List Th} {k : Nat} (hk : k < 6) (h : Pv l k 0) (t3 s4 s5 s6 : Sl) (h4 : Free s4) (h5 : Free s5) (h6 : Free s6) :
    ∃ (c' : D) (l' : List Th) (t4 t5 t6 : Sl), Cup c' ∧ Free t4 ∧ Free t5 ∧ Free t6 ∧ Pv l' (k + 1) 0 ∧ (∃ t n, l' = t ++ [.place n]) ∧ evB (callN P W N) W f29_b1 [.bor c, .val m, .val (.tuple (encs l)), t3, s4, s5, s6] = .ok .nx [.bor c', .val m, .val (.tuple (encs l')), t3, t4, t5, t6] := by
  obtain ⟨j, c1, e1, j0, j1, k1⟩ := roll_ge (N := N) (by omega) hc (k := 3) (by decide) (by decide)
  obtain ⟨c2, l2, t4, t5, t6, k2, g4, g5, g6, hp, e2⟩ := in32 hN m k (by omega) t3 ((inR 0 (1 + j).toNat).map PyData.int) c1 l 0 s4 s5 s6 k1 h (by rw [List.length_map, inR_len]; omega) h4 h5 h6
  obtain ⟨n, c3, e3, n0, n1, k3⟩ := roll_ge (N := N) (by omega) k2 (k := 50) (by decide) (by decide)
  have hp3 := hp.place (by rw [List.length_map, inR_len]; omega) (n := n) (by omega)
  have hll : l2.length ≤ 200 := by
    have := hp.cnt
    have := len_cnts l2
    rw [List.length_map, inR_len] at *
    omega
  refine ⟨c3, l2 ++ [.place n], t4, t5, t6, k3, g4, g5, g6, hp3, ⟨l2, n, rfl⟩, ?_⟩
  have ei : evI (callN P W N) (.rg1 (.bin .add (.cst (.int 1)) (.call 25 "_law_roll" (.lend 0 (.cons (.cst (.int 3)) .nil))))) [.bor c, .val m, .val (.tuple (encs l)), t3, s4, s5, s6] = .ok ((inR 0 (1 + j).toNat).map PyData.int) [.bor c1, .val m, .val (.tuple (encs l)), t3, s4, s5, s6] := rg1_in (by simp! [e1]) (by omega)
  have el : evS (callN P W N) W f29_l0 [.bor c, .val m, .val (.tuple (encs l)), t3, s4, s5, s6] = .ok .nx [.bor c2, .val m, .val (.tuple (encs l2)), t3, t4, t5, t6] := by
    rw [show f29_l0 = IS.fr (.n 4 false) (.rg1 (.bin .add (.cst (.int 1)) (.call 25 "_law_roll" (.lend 0 (.cons (.cst (.int 3)) .nil))))) f29_b0 from rfl, s_for, ei, bind_ok']
    exact e2
  exact b1_32 (callN P W N) c c2 c3 m _ _ _ t3 s4 s5 s6 t4 t5 t6 n el e3 (add_enc l2 (.place n) hll)
theorem out32 {N : Nat} (hN : 3 ≤ N) (m : D) : ∀ (xs : List D) (c : D) (l : List Th) (k : Nat) (s3 s4 s5 s6 : Sl), Cup c → Pv l k 0 → k + xs.length ≤ 6 → 0 < k + xs.length → (0 < k → ∃ t n, l = t ++ [.place n]) → Free s3 → Free s4 → Free s5 → Free s6 →
    ∃ (c' : D) (l' : List Th) (t3 t4 t5 t6 : Sl), Cup c' ∧ Psg l' ∧ forL (fun x r2 => (asn (.n 3 false) (.d x) r2).bind fun _ r3 => evB (callN P W N) W f29_b1 r3) xs [.bor c, .val m, .val (.tuple (encs l)), s3, s4, s5, s6] = .ok .nx [.bor c', .val m, .val (.tuple (encs l')), t3, t4, t5, t6]
  | [], c, l, k, s3, s4, s5, s6, hc, h, hl, hk, he, h3, h4, h5, h6 => by
    have hl' : k ≤ 6 := hl
    have hk' : 0 < k := hk
    exact ⟨c, l, s3, s4, s5, s6, hc, ⟨h.wf, by have := h.cnt; omega, by have := h.spc; omega, he hk', by rw [plM_len, h.pl]; omega⟩, rfl⟩
  | x :: xs, c, l, k, s3, s4, s5, s6, hc, h, hl, hk, he, h3, h4, h5, h6 => by
    rw [List.length_cons] at hl
    obtain ⟨c1, l1, t4, t5, t6, k1, g4, g5, g6, hp, hend, e1⟩ := row32 hN hc m (by omega) h (.val x) s4 s5 s6 h4 h5 h6
    obtain ⟨c2, l2, u3, u4, u5, u6, k2, hp2, e2⟩ := out32 hN m xs c1 l1 (k + 1) (.val x) t4 t5 t6 k1 hp (by omega) (by omega) (fun _ => hend) (.inr ⟨_, rfl⟩) g4 g5 g6
    refine ⟨c2, l2, u3, u4, u5, u6, k2, hp2, ?_⟩
    have ea : asn (.n 3 false) (.d x) [.bor c, .val m, .val (.tuple (encs l)), s3, s4, s5, s6] = .ok () [.bor c, .val m, .val (.tuple (encs l)), .val x, s4, s5, s6] := by simp! [sto_free h3]
    rw [for_nx (r' := [.bor c1, .val m, .val (.tuple (encs l1)), .val x, t4, t5, t6]) (by rw [ea, bind_ok']; exact e1)]
    exact e2
theorem en32 (call : Nat → List Sl → CR) (c c' m L : D) (t3 t4 t5 t6 : Sl) (el : evS call W f29_l1 [.bor c, .val m, .val (.tuple []), .un, .un, .un, .un] = .ok .nx [.bor c', .val m, .val L, t3, t4, t5, t6]) :
    endK [.bor c, .val m] (evB call W f29.body ([.bor c, .val m] ++ List.replicate (f29.names.length - f29.np) .un)) = .ok false L [c'] := by
  have eb : f29.body = (.cons (.asg (.n 2 false) (.tup .nil)) (.cons f29_l1 (.cons (.ret (.var 2)) .nil))) := rfl
  rw [eb]
  simp! [f29, el]
theorem psg32 {N : Nat} (hN : 4 ≤ N) {c : D} (hc : Cup c) : ∃ (c' : D) (l : List Th), Cup c' ∧ Psg l ∧ callN P W N 29 [.bor c, .val (.int 4)] = .ok false (.tuple (encs l)) [c'] := by
  obtain ⟨M, rfl⟩ : ∃ M, N = M + 1 := ⟨N - 1, by omega⟩
  obtain ⟨j, c1, e1, j0, j1, k1⟩ := roll_ge (N := M) (by omega) hc (k := 4) (by decide) (by decide)
  obtain ⟨c2, l2, t3, t4, t5, t6, k2, hp, e2⟩ := out32 (N := M) (by omega) (.int 4) ((inR 0 (1 + j).toNat).map PyData.int) c1 [] 0 .un .un .un .un k1 ⟨trivial, Nat.zero_le _, Nat.zero_le _, rfl⟩ (by rw [List.length_map, inR_len]; omega) (by rw [List.length_map, inR_len]; omega) (fun z => absurd z (Nat.lt_irrefl _)) (.inl rfl) (.inl rfl) (.inl rfl) (.inl rfl)
  refine ⟨c2, l2, k2, hp, ?_⟩
  rw [step (df := f29) rfl rfl]
  refine en32 _ c c2 (.int 4) _ t3 t4 t5 t6 ?_
  have ei : evI (callN P W M) (.rg1 (.bin .add (.cst (.int 1)) (.call 25 "_law_roll" (.lend 0 (.cons (.var 1) .nil))))) [.bor c, .val (.int 4), .val (.tuple []), .un, .un, .un, .un] = .ok ((inR 0 (1 + j).toNat).map PyData.int) [.bor c1, .val (.int 4), .val (.tuple []), .un, .un, .un, .un] := rg1_in (by simp! [e1]) (by omega)
  rw [show f29_l1 = IS.fr (.n 3 false) (.rg1 (.bin .add (.cst (.int 1)) (.call 25 "_law_roll" (.lend 0 (.cons (.var 1) .nil))))) f29_b1 from rfl, s_for, ei, bind_ok']
  exact e2
end K65

end
section
set_option maxRecDepth 100000
local macro_rules | `(tactic| simp! [$ts,*]) => `(tactic| simp only [Ev.bind_ok', Ev.bind_stuck', Ev.bind_ite, Ev.of_some', Ev.of_none', Ev.of_ite, Ev.slD_val, Ev.slD_own, Ev.slD_bor, Ev.deref_d, Ev.deref_f, Ev.deref_s, Ev.tru_eq, Ev.truS_some, Ev.truth_bool, Ev.truth_int, Ev.truth_list, Ev.truth_tuple, Ev.un1S_some, Ev.bi2S_some, Ev.andK_b, Ev.orK_b, Ev.negK_i, Ev.varK_val, Ev.varK_own, Ev.varK_bor, Ev.solS_val, Ev.solS_own, Ev.sol_d, Ev.sol_f, Ev.sol_s, Ev.muS_own, Ev.muS_bor, Ev.mutAt_eq, Ev.bop_add, Ev.bop_sub, Ev.bop_mul, Ev.bop_div, Ev.bop_mod, Ev.bop_tup, Ev.bop_lst, Ev.cop_lt, Ev.cop_le, Ev.cop_gt, Ev.cop_ge, Ev.cop_eqi, Ev.cop_eqs, Ev.cop_nei, Ev.cop_nes, Ev.cop_is, Ev.cop_isNot, Ev.cop_in, Ev.is_bb, Ev.e_none, Ev.e_bool, Ev.e_int, Ev.e_str, Ev.e_var, Ev.e_glob, Ev.e_bin, Ev.e_neg, Ev.e_cmp, Ev.chnS_some, Ev.e_chn, Ev.e_not, Ev.e_and, Ev.e_or, Ev.e_ife, Ev.e_tup, Ev.e_lst, Ev.e_idx, Ev.e_isi, Ev.e_bl1, Ev.e_un, Ev.e_bl2, Ev.callK_v, Ev.callK_f, Ev.callK_v1, Ev.callK_f1, Ev.callK_v2, Ev.argK_some, Ev.e_call, Ev.argsS_nil, Ev.argsS_v, Ev.argsS_l, Ev.lends_nil, Ev.lends_v, Ev.lends_l, Ev.a_nil, Ev.a_cons, Ev.r_nil, Ev.r_cons, Ev.lendK_some, Ev.r_lend, Ev.o_no, Ev.derK_some, Ev.o_yes, Ev.t_no, Ev.t_yes, Ev.i_val, Ev.slS_some, Ev.e_slc, Ev.opt_none, Ev.opt_int, Ev.slice_list, Ev.slice_tup, Ev.e_dsp, Ev.dicS_some, Ev.e_mg2, Ev.rgK_i, Ev.i_rg1, Ev.rgK2_i, Ev.i_rg2, Ev.enK_some, Ev.i_enm, Ev.zpK_some, Ev.i_zip, Ev.c_cst, Ev.c_var, Ev.c_cmp, Ev.c_chn, Ev.c_isi, Ev.c_call, Ev.c_bl1, Ev.c_not, Ev.c_and, Ev.c_or, Ev.c_ife, Ev.seqK_nx, Ev.seqK_brk, Ev.seqK_cnt, Ev.seqK_ret, Ev.seqK_exc, Ev.seqK_stuck, Ev.seqK_ite, Ev.b_nil, Ev.b_cons, Ev.retK_d, Ev.retK_f, Ev.s_ret, Ev.s_retN, Ev.s_asg, Ev.s_ex, Ev.s_if, Ev.s_for, Ev.s_whl, Ev.s_pas, Ev.s_rse, Ev.stoK_un, Ev.stoK_val, Ev.stoK_own, Ev.asn_d, Ev.asn_f, Ev.asn_fo, Ev.asn_t, Ev.asnL_nil, Ev.asnL_cons, Ev.asnP_nil, Ev.asnP_cons, Ev.s_asp, Ev.fK_f, Ev.fK_d, Ev.fK_s, Ev.f_nil, Ev.f_cons, Ev.lendF_some, Ev.setS_own, Ev.setS_bor, Ev.setAt_eq, Ev.ixK_some, Ev.setK_l, Ev.s_sto, Ev.outs_nil, Ev.outs_v, Ev.outs_b, Ev.endK_nx, Ev.endK_ret, Ev.endK_exc, Ev.endK_stuck, Ev.endK_ite, Ev.endS_some, Ev.endCall_eq, Ev.e_emp, Ev.e_din, Ev.e_dix, Ev.sdkS_some, Ev.e_sdk, Ev.e_tin, Ev.e_tix, Ev.e_tg1, Ev.e_tg2, Ev.e_sdt, Ev.c_din, Ev.c_tin, Ev.s_dst, Ev.s_tst, Ev.isN_none, Ev.isN_bool, Ev.isN_int, Ev.isN_str, Ev.isN_list, Ev.isN_tup, Ev.isN_dict, Ev.e_mg1, Ev.appL_l, Ev.appK_l, Ev.s_app, Ev.nd_none, Ev.ty_int_none, Ev.ty_bool_none, Ev.ty_str_none, Ev.ty_tuple_none, Ev.ty_list_none, Ev.nd_bool, Ev.ty_int_bool, Ev.ty_bool_bool, Ev.ty_str_bool, Ev.ty_tuple_bool, Ev.ty_list_bool, Ev.nd_int, Ev.ty_int_int, Ev.ty_bool_int, Ev.ty_str_int, Ev.ty_tuple_int, Ev.ty_list_int, Ev.nd_str, Ev.ty_int_str, Ev.ty_bool_str, Ev.ty_str_str, Ev.ty_tuple_str, Ev.ty_list_str, Ev.nd_list, Ev.ty_int_list, Ev.ty_bool_list, Ev.ty_str_list, Ev.ty_tuple_list, Ev.ty_list_list, Ev.nd_tup, Ev.ty_int_tup, Ev.ty_bool_tup, Ev.ty_str_tup, Ev.ty_tuple_tup, Ev.ty_list_tup, Ev.nd_dict, Ev.ty_int_dict, Ev.ty_bool_dict, Ev.ty_str_dict, Ev.ty_tuple_dict, Ev.ty_list_dict, List.getElem?_cons_zero, List.getElem?_cons_succ, List.getElem?_nil, List.set_cons_zero, List.set_cons_succ, List.length_cons, List.length_nil, List.replicate_succ, List.replicate_zero, List.cons_append, List.nil_append, List.append_nil, List.nodup_nil, List.nodup_cons, List.mem_cons, List.not_mem_nil, List.isEmpty_nil, List.isEmpty_cons, Option.map_some, Option.map_none, Option.bind_some, Option.bind_none, Option.getD_some, Option.getD_none, Option.isSome_some, Option.isSome_none, Option.isNone_some, Option.isNone_none, ite_true, ite_false, if_true, if_false, decide_true, decide_false, decide_eq_true_eq, Bool.not_true, Bool.not_false, Bool.not_not, Bool.true_and, Bool.false_and, Bool.and_true, Bool.and_false, Bool.or_true, Bool.or_false, Bool.true_or, Bool.false_or, Bool.not_eq_true, Bool.not_eq_true', Bool.and_self, Bool.or_self, Bool.false_eq_true, reduceCtorEq, not_true_eq_false, not_false_eq_true, or_false, false_or, or_true, true_or, and_true, true_and, and_false, false_and, eq_self, bne_self_eq_false, Nat.reduceAdd, Nat.reduceSub, Nat.reduceLeDiff, Nat.reduceLT, Nat.reduceEqDiff, Nat.zero_add, Nat.reduceMul, Int.reduceNeg, Int.reduceAdd, Int.reduceSub, Int.reduceMul, Int.reduceLT, Int.reduceLE, Int.reduceEq, Int.reduceDiv, Int.reduceMod, Int.reduceToNat, Int.reducePow, Nat.succ_ne_zero, Nat.add_eq_zero_iff, Nat.le_refl, Nat.one_ne_zero, ↓reduceIte, Ev.SZ, $ts,*])
set_option linter.all false
set_option maxHeartbeats 4000000
/-! What parts, by the program and by the law. -/
namespace K65
open PySem Ev
theorem items_pD (ps : List Pr) : itemsD (pD ps) = some (ps.map (encK encQ)) := by cases ps <;> rfl
theorem lvs_pD (ps : List Pr) : u1 .lvs (pD ps) = some (.f (.list (ps.map fun p => encQ p.2))) := by
  have e : u1 .lvs (pD ps) = (itemsD (pD ps)).map fun qs => TV.f (.list (qs.map (·.2))) := rfl
  rw [e, items_pD, Option.map_some, List.map_map]
  rfl
theorem isOf_optL (o : Option (List Int)) : isOf (optL o) .none = some o.isNone := by cases o <;> rfl
theorem isOf_optD (o : Option Int) : isOf (optD o) .none = some o.isNone := by cases o <;> rfl
section
variable {N : Nat} (ps : List Pr) (many : Nat) (hm : many ≤ 6) (h0 : 0 < many)
include hm in
theorem lines20 (w : Int) : callN P W (N + 2) 20 [.val (pD ps), .val (.int many), .val (.int w)] = .ok false (optL (lookW (waysM (qP ps w) many) ((many : Int) - 1))) [] :=
  lines23 (qP ps w) many (fun i j _ _ _ => fit21 (by omega) ps i j w) (by omega)
include hm h0 in
theorem taken19 (w : Int) : callN P W (N + 2) 19 [.val (pD ps), .val (.int many), .val (.int w)] = .ok false (optL (takM (qP ps w) many many (-1) [])) [] :=
  taken22 (qP ps w) many (fun i j _ _ _ => fit21 (by omega) ps i j w) (by omega) h0
include hm in
theorem can36 (w : Int) : callN P W (N + 2) 36 [.val (pD ps), .val (.int many), .val (.int w)] = .ok false (.bool (lookW (waysM (qP ps w) many) ((many : Int) - 1)).isSome) [] :=
  can40 (qP ps w) many (fun i j _ _ _ => has38 (by omega) ps i j w) (by omega)
include hm in
theorem taken35 (w : Int) : callN P W (N + 2) 35 [.val (pD ps), .val (.int many), .val (.int w)] = .ok false (optL (takM (qP ps w) many many (-1) [])) [] :=
  taken39 (qP ps w) many (fun i j _ _ _ => has38 (by omega) ps i j w) (by omega)
end
section
variable (call : Nat → List Sl → CR)
theorem it21 (ps : List Pr) (L m n : D) (s4 s5 : Sl) : evI call (.val (.un .lvs (.var 2))) [.val L, .val m, .val (pD ps), .val n, s4, s5, .un] = .ok (ps.map fun p => encQ p.2) [.val L, .val m, .val (pD ps), .val n, s4, s5, .un] := by
  simp! [lvs_pD, itemsOf]
theorem c0_21 (ps : List Pr) (hl : ps.length ≤ 1000) (L m n : D) (s4 s5 : Sl) : (ev call f21_c0).1 [.val L, .val m, .val (pD ps), .val n, s4, s5, .un] = .ok (.f (.list ((ps.map fun p => p.2.1).map PyData.int))) [.val L, .val m, .val (pD ps), .val n, s4, s5, .un] := by
  rw [List.map_map]
  refine cm_map (en := fun p : Pr => encQ p.2) (xs := ps) _ rfl (it21 call ps L m n s4 s5) (fun p _ => ?_) (by show _ ≤ 16777216; omega)
  simp! [encQ, idxp0]
  rfl
theorem c1_21 (ps : List Pr) (hl : ps.length ≤ 1000) (L m n : D) (s4 s5 : Sl) : (ev call f21_c1).1 [.val L, .val m, .val (pD ps), .val n, s4, s5, .un] = .ok (.f (.list ((ps.map fun p => p.2.2 + 1).map PyData.int))) [.val L, .val m, .val (pD ps), .val n, s4, s5, .un] := by
  rw [List.map_map]
  refine cm_map (en := fun p : Pr => encQ p.2) (xs := ps) _ rfl (it21 call ps L m n s4 s5) (fun p _ => ?_) (by show _ ≤ 16777216; omega)
  simp! [encQ, idxp1]
  rfl
theorem sst_ints (l : List Int) (h : l.length < 64) : u1 .sst (.list (l.map PyData.int)) = some (.f (.list ((sortU l).map PyData.int))) := by
  have e := ints_map (fun i : Int => i) l
  rw [List.map_id'] at e
  show (if (l.map PyData.int).length < 64 then (intsL (l.map PyData.int)).map _ else none) = _
  rw [if_pos (by rw [List.length_map]; exact h), show (intsL (l.map PyData.int)) = some l from e]
  rfl
theorem add_intsD (a b : List Int) (h : a.length + b.length ≤ 200000) : bop .add (.list (a.map PyData.int)) (.list (b.map PyData.int)) = some (.f (.list ((a ++ b).map PyData.int))) := by
  rw [bop_lst, List.map_append]
  refine if_pos ?_
  rw [List.length_map, List.length_map]
  show _ ≤ 16777216
  omega
theorem b0_21 (L m F n E : D) (w : Int) (s5 : Sl) (h5 : Free s5) (ol ot : Option (List Int)) (e1 : call 20 [.val F, .val n, .val (.int w)] = .ok false (optL ol) []) (e2 : call 19 [.val F, .val n, .val (.int w)] = .ok false (optL ot) []) :
    ((asn (.n 5 false) (.d (.int w)) [.val L, .val m, .val F, .val n, .val E, s5, .un]).bind fun _ r3 => evB call W f21_b0 r3) = if (ol.isSome && ot.isNone) = true then .ok (.ret false (.int w)) [.val L, .val m, .val F, .val n, .val E, .val (.int w), .un] else .ok .nx [.val L, .val m, .val F, .val n, .val E, .val (.int w), .un] := by
  cases ol <;> cases ot <;> simp! [f21_b0, sto_free h5, e1, e2, isOf_optL] <;> rfl
theorem en21 (L m F : D) (n : Int) (PL : List D) (A B : List Int) (o : Option Int) (t4 t5 : Sl) (e1 : call 17 [.val L, .val m] = .ok false F []) (e2 : call 7 [.val L] = .ok true (.list PL) []) (e3 : b1 .len (.list PL) = some (.d (.int n)))
    (c0 : (ev call f21_c0).1 [.val L, .val m, .val F, .val (.int n), .un, .un, .un] = .ok (.f (.list (A.map PyData.int))) [.val L, .val m, .val F, .val (.int n), .un, .un, .un]) (c1 : (ev call f21_c1).1 [.val L, .val m, .val F, .val (.int n), .un, .un, .un] = .ok (.f (.list (B.map PyData.int))) [.val L, .val m, .val F, .val (.int n), .un, .un, .un])
    (ea : bop .add (.list (A.map PyData.int)) (.list (B.map PyData.int)) = some (.f (.list ((A ++ B).map PyData.int))))
    (el : evS call W f21_l0 [.val L, .val m, .val F, .val (.int n), .val (.list ((A ++ B).map PyData.int)), .un, .un] = match o with
      | some w => .ok (.ret false (.int w)) [.val L, .val m, .val F, .val (.int n), .val (.list ((A ++ B).map PyData.int)), t5, .un]
      | none => .ok .nx [.val L, .val m, .val F, .val (.int n), .val (.list ((A ++ B).map PyData.int)), t5, .un]) :
    endK [.val L, .val m] (evB call W f21.body [.val L, .val m, .un, .un, .un, .un, .un]) = .ok false (optD o) [] := by
  obtain ⟨Z, hZ⟩ : ∃ Z, Z = f21_l0 := ⟨_, rfl⟩
  obtain ⟨C0, hC0⟩ : ∃ Z, Z = f21_c0 := ⟨_, rfl⟩
  obtain ⟨C1, hC1⟩ : ∃ Z, Z = f21_c1 := ⟨_, rfl⟩
  rw [← hZ] at el
  rw [← hC0] at c0
  rw [← hC1] at c1
  simp only [f21]
  rw [← hZ, ← hC0, ← hC1]
  cases o with
  | none => simp! [e1, e2, e3, c0, c1, ea, el, optD]
  | some w => simp! [e1, e2, e3, c0, c1, ea, el, optD]
end
theorem part21 {N : Nat} (hN : 14 ≤ N) {l : List Th} (h : Psg l) {m : Int} (hm : 0 ≤ m ∧ m ≤ 10) : callN P W N 21 [.val (.tuple (encs l)), .val (.int m)] = .ok false (optD (partM (allP (fitF l m) (manyM l)) (manyM l))) [] := by
  obtain ⟨M, rfl⟩ : ∃ M, N = M + 3 := ⟨N - 3, by omega⟩
  have hp : manyM l ≤ 6 := h.pl
  have h0 := many_pos h
  have hlen := len_all l m hp
  have e1 := all20 (N := M + 2) (by omega) h hm
  generalize hps : allP (fitF l m) (manyM l) = ps at *
  rw [step (df := f21) rfl rfl]
  have hE : (endsP ps).length < 64 := by
    unfold endsP
    rw [List.length_append, List.length_map, List.length_map]
    omega
  obtain ⟨r', ⟨s5, g5, hr⟩, el⟩ := for_search (f := fun x r2 => (asn (.n 5 false) (.d x) r2).bind fun _ r3 => evB (callN P W (M + 2)) W f21_b0 r3) (en := PyData.int) (parts ps (manyM l)) PyData.int false
    (fun r => ∃ s5, Free s5 ∧ r = [.val (.tuple (encs l)), .val (.int m), .val (pD ps), .val (.int (manyM l)), .val (.list ((endsP ps).map PyData.int)), s5, .un]) (sortU (endsP ps)) (fun w _ r ⟨s5, h5, hr⟩ => by
      subst hr
      have e := b0_21 (callN P W (M + 2)) (.tuple (encs l)) (.int m) (pD ps) (.int (manyM l)) (.list ((endsP ps).map PyData.int)) w s5 h5 _ _ (lines20 ps (manyM l) hp w) (taken19 ps (manyM l) hp h0 w)
      refine ⟨fun hq => ⟨_, ?_, .val (.int w), .inr ⟨_, rfl⟩, rfl⟩, fun hq => ⟨_, ?_, .val (.int w), .inr ⟨_, rfl⟩, rfl⟩⟩
      · exact e.trans (if_pos hq)
      · refine e.trans (if_neg ?_)
        rw [show ((lookW (waysM (qP ps w) (manyM l)) ((manyM l : Int) - 1)).isSome && (takM (qP ps w) (manyM l) (manyM l) (-1) []).isNone) = false from hq]
        decide) _ ⟨.un, .inl rfl, rfl⟩
  subst hr
  refine en21 (callN P W (M + 2)) _ _ (pD ps) (manyM l) _ (ps.map fun p => p.2.1) (ps.map fun p => p.2.2 + 1) (partM ps (manyM l)) .un s5 e1 (places7 (by omega) l (by have := h.cnt; omega)) (len_pl l) (c0_21 _ ps (by omega) _ _ _ _ _) (c1_21 _ ps (by omega) _ _ _ _ _) (add_intsD _ _ (by rw [List.length_map, List.length_map]; omega)) ?_
  have ei : evI (callN P W (M + 2)) (.val (.un .sst (.var 4))) [.val (.tuple (encs l)), .val (.int m), .val (pD ps), .val (.int (manyM l)), .val (.list ((endsP ps).map PyData.int)), .un, .un] = .ok ((sortU (endsP ps)).map PyData.int) [.val (.tuple (encs l)), .val (.int m), .val (pD ps), .val (.int (manyM l)), .val (.list ((endsP ps).map PyData.int)), .un, .un] := by
    have e := sst_ints (endsP ps) hE
    generalize (endsP ps).map PyData.int = E at *
    simp! [e, itemsOf]
  rw [show f21_l0 = IS.fr (.n 5 false) (.val (.un .sst (.var 4))) f21_b0 from rfl, s_for]
  show (evI (callN P W (M + 2)) (.val (.un .sst (.var 4))) [.val (.tuple (encs l)), .val (.int m), .val (pD ps), .val (.int (manyM l)), .val (.list ((endsP ps).map PyData.int)), .un, .un]).bind _ = _
  rw [ei, bind_ok']
  refine el.trans ?_
  unfold partM
  cases (sortU (endsP ps)).find? (parts ps (manyM l)) <;> rfl
end K65

end
section
set_option maxRecDepth 100000
local macro_rules | `(tactic| simp! [$ts,*]) => `(tactic| simp only [Ev.bind_ok', Ev.bind_stuck', Ev.bind_ite, Ev.of_some', Ev.of_none', Ev.of_ite, Ev.slD_val, Ev.slD_own, Ev.slD_bor, Ev.deref_d, Ev.deref_f, Ev.deref_s, Ev.tru_eq, Ev.truS_some, Ev.truth_bool, Ev.truth_int, Ev.truth_list, Ev.truth_tuple, Ev.un1S_some, Ev.bi2S_some, Ev.andK_b, Ev.orK_b, Ev.negK_i, Ev.varK_val, Ev.varK_own, Ev.varK_bor, Ev.solS_val, Ev.solS_own, Ev.sol_d, Ev.sol_f, Ev.sol_s, Ev.muS_own, Ev.muS_bor, Ev.mutAt_eq, Ev.bop_add, Ev.bop_sub, Ev.bop_mul, Ev.bop_div, Ev.bop_mod, Ev.bop_tup, Ev.bop_lst, Ev.cop_lt, Ev.cop_le, Ev.cop_gt, Ev.cop_ge, Ev.cop_eqi, Ev.cop_eqs, Ev.cop_nei, Ev.cop_nes, Ev.cop_is, Ev.cop_isNot, Ev.cop_in, Ev.is_bb, Ev.e_none, Ev.e_bool, Ev.e_int, Ev.e_str, Ev.e_var, Ev.e_glob, Ev.e_bin, Ev.e_neg, Ev.e_cmp, Ev.chnS_some, Ev.e_chn, Ev.e_not, Ev.e_and, Ev.e_or, Ev.e_ife, Ev.e_tup, Ev.e_lst, Ev.e_idx, Ev.e_isi, Ev.e_bl1, Ev.e_un, Ev.e_bl2, Ev.callK_v, Ev.callK_f, Ev.callK_v1, Ev.callK_f1, Ev.callK_v2, Ev.argK_some, Ev.e_call, Ev.argsS_nil, Ev.argsS_v, Ev.argsS_l, Ev.lends_nil, Ev.lends_v, Ev.lends_l, Ev.a_nil, Ev.a_cons, Ev.r_nil, Ev.r_cons, Ev.lendK_some, Ev.r_lend, Ev.o_no, Ev.derK_some, Ev.o_yes, Ev.t_no, Ev.t_yes, Ev.i_val, Ev.slS_some, Ev.e_slc, Ev.opt_none, Ev.opt_int, Ev.slice_list, Ev.slice_tup, Ev.e_dsp, Ev.dicS_some, Ev.e_mg2, Ev.rgK_i, Ev.i_rg1, Ev.rgK2_i, Ev.i_rg2, Ev.enK_some, Ev.i_enm, Ev.zpK_some, Ev.i_zip, Ev.c_cst, Ev.c_var, Ev.c_cmp, Ev.c_chn, Ev.c_isi, Ev.c_call, Ev.c_bl1, Ev.c_not, Ev.c_and, Ev.c_or, Ev.c_ife, Ev.seqK_nx, Ev.seqK_brk, Ev.seqK_cnt, Ev.seqK_ret, Ev.seqK_exc, Ev.seqK_stuck, Ev.seqK_ite, Ev.b_nil, Ev.b_cons, Ev.retK_d, Ev.retK_f, Ev.s_ret, Ev.s_retN, Ev.s_asg, Ev.s_ex, Ev.s_if, Ev.s_for, Ev.s_whl, Ev.s_pas, Ev.s_rse, Ev.stoK_un, Ev.stoK_val, Ev.stoK_own, Ev.asn_d, Ev.asn_f, Ev.asn_fo, Ev.asn_t, Ev.asnL_nil, Ev.asnL_cons, Ev.asnP_nil, Ev.asnP_cons, Ev.s_asp, Ev.fK_f, Ev.fK_d, Ev.fK_s, Ev.f_nil, Ev.f_cons, Ev.lendF_some, Ev.setS_own, Ev.setS_bor, Ev.setAt_eq, Ev.ixK_some, Ev.setK_l, Ev.s_sto, Ev.outs_nil, Ev.outs_v, Ev.outs_b, Ev.endK_nx, Ev.endK_ret, Ev.endK_exc, Ev.endK_stuck, Ev.endK_ite, Ev.endS_some, Ev.endCall_eq, Ev.e_emp, Ev.e_din, Ev.e_dix, Ev.sdkS_some, Ev.e_sdk, Ev.e_tin, Ev.e_tix, Ev.e_tg1, Ev.e_tg2, Ev.e_sdt, Ev.c_din, Ev.c_tin, Ev.s_dst, Ev.s_tst, Ev.isN_none, Ev.isN_bool, Ev.isN_int, Ev.isN_str, Ev.isN_list, Ev.isN_tup, Ev.isN_dict, Ev.e_mg1, Ev.appL_l, Ev.appK_l, Ev.s_app, Ev.nd_none, Ev.ty_int_none, Ev.ty_bool_none, Ev.ty_str_none, Ev.ty_tuple_none, Ev.ty_list_none, Ev.nd_bool, Ev.ty_int_bool, Ev.ty_bool_bool, Ev.ty_str_bool, Ev.ty_tuple_bool, Ev.ty_list_bool, Ev.nd_int, Ev.ty_int_int, Ev.ty_bool_int, Ev.ty_str_int, Ev.ty_tuple_int, Ev.ty_list_int, Ev.nd_str, Ev.ty_int_str, Ev.ty_bool_str, Ev.ty_str_str, Ev.ty_tuple_str, Ev.ty_list_str, Ev.nd_list, Ev.ty_int_list, Ev.ty_bool_list, Ev.ty_str_list, Ev.ty_tuple_list, Ev.ty_list_list, Ev.nd_tup, Ev.ty_int_tup, Ev.ty_bool_tup, Ev.ty_str_tup, Ev.ty_tuple_tup, Ev.ty_list_tup, Ev.nd_dict, Ev.ty_int_dict, Ev.ty_bool_dict, Ev.ty_str_dict, Ev.ty_tuple_dict, Ev.ty_list_dict, List.getElem?_cons_zero, List.getElem?_cons_succ, List.getElem?_nil, List.set_cons_zero, List.set_cons_succ, List.length_cons, List.length_nil, List.replicate_succ, List.replicate_zero, List.cons_append, List.nil_append, List.append_nil, List.nodup_nil, List.nodup_cons, List.mem_cons, List.not_mem_nil, List.isEmpty_nil, List.isEmpty_cons, Option.map_some, Option.map_none, Option.bind_some, Option.bind_none, Option.getD_some, Option.getD_none, Option.isSome_some, Option.isSome_none, Option.isNone_some, Option.isNone_none, ite_true, ite_false, if_true, if_false, decide_true, decide_false, decide_eq_true_eq, Bool.not_true, Bool.not_false, Bool.not_not, Bool.true_and, Bool.false_and, Bool.and_true, Bool.and_false, Bool.or_true, Bool.or_false, Bool.true_or, Bool.false_or, Bool.not_eq_true, Bool.not_eq_true', Bool.and_self, Bool.or_self, Bool.false_eq_true, reduceCtorEq, not_true_eq_false, not_false_eq_true, or_false, false_or, or_true, true_or, and_true, true_and, and_false, false_and, eq_self, bne_self_eq_false, Nat.reduceAdd, Nat.reduceSub, Nat.reduceLeDiff, Nat.reduceLT, Nat.reduceEqDiff, Nat.zero_add, Nat.reduceMul, Int.reduceNeg, Int.reduceAdd, Int.reduceSub, Int.reduceMul, Int.reduceLT, Int.reduceLE, Int.reduceEq, Int.reduceDiv, Int.reduceMod, Int.reduceToNat, Int.reducePow, Nat.succ_ne_zero, Nat.add_eq_zero_iff, Nat.le_refl, Nat.one_ne_zero, ↓reduceIte, Ev.SZ, $ts,*])
set_option linter.all false
set_option maxHeartbeats 4000000
/-! may_take, taking_shown; the law's word. -/
namespace K65
open PySem Ev
section
variable (call : Nat → List Sl → CR)
theorem b22 (L : D) (m : Int) (o : Option Int) (e1 : call 9 [.val L] = .ok false .none []) (e2 : call 13 [.val (.int m), .val (.int 0), .val (.int 10)] = .ok false .none []) (e3 : call 21 [.val L, .val (.int m)] = .ok false (optD o) []) :
    endK [.val L, .val (.int m)] (evB call W f22.body ([.val L, .val (.int m)] ++ List.replicate (f22.names.length - f22.np) .un)) = .ok false (.bool o.isNone) [] := by
  simp! [f22, e1, e2, e3, isOf_optD]
theorem b23 (L : D) (m : Int) (o : Option Int) (e1 : call 9 [.val L] = .ok false .none []) (e2 : call 13 [.val (.int m), .val (.int 0), .val (.int 10)] = .ok false .none []) (e3 : call 21 [.val L, .val (.int m)] = .ok false (optD o) []) :
    endK [.val L, .val (.int m)] (evB call W f23.body ([.val L, .val (.int m)] ++ List.replicate (f23.names.length - f23.np) .un)) = .ok false (optD o) [] := by
  simp! [f23, e1, e2, e3]
theorem it37 (ps : List Pr) (n s2 s3 : D) (t2 t3 : Sl) : evI call (.val (.un .lvs (.var 0))) [.val (pD ps), .val n, t2, t3, .un] = .ok (ps.map fun p => encQ p.2) [.val (pD ps), .val n, t2, t3, .un] := by
  simp! [lvs_pD, itemsOf]
theorem c0_37 (ps : List Pr) (hl : ps.length ≤ 1000) (n : D) (t2 t3 : Sl) : (ev call f37_c0).1 [.val (pD ps), .val n, t2, t3, .un] = .ok (.f (.list ((fins ps).map PyData.int))) [.val (pD ps), .val n, t2, t3, .un] := by
  have hpow : bop .pow (.int 10) (.int 9) = some (.d (.int 1000000000)) := by kernel_rfl
  unfold fins
  rw [List.map_map]
  refine cm_fil (en := fun p : Pr => encQ p.2) (xs := ps) (fun p => decide (p.2.2 < 1000000000)) _ rfl (it37 call ps n .none .none t2 t3) (fun p _ => ?_) (fun p _ _ => ?_) (by show _ ≤ 16777216; omega)
  · simp! [encQ, idxp1, hpow]
  · simp! [encQ, idxp1]
    rfl
theorem c1_37 (ps : List Pr) (hl : ps.length ≤ 1000) (n : D) (t2 t3 : Sl) : (ev call f37_c1).1 [.val (pD ps), .val n, t2, t3, .un] = .ok (.f (.list ((los ps).map PyData.int))) [.val (pD ps), .val n, t2, t3, .un] := by
  unfold los
  rw [List.map_map]
  refine cm_map (en := fun p : Pr => encQ p.2) (xs := ps) _ rfl (it37 call ps n .none .none t2 t3) (fun p _ => ?_) (by show _ ≤ 16777216; omega)
  simp! [encQ, idxp0]
  rfl
theorem b0_37 (F n h : D) (w : Int) (s3 : Sl) (h3 : Free s3) (ot : Option (List Int)) (b : Bool) (e1 : call 35 [.val F, .val n, .val (.int w)] = .ok false (optL ot) []) (e2 : call 36 [.val F, .val n, .val (.int w)] = .ok false (.bool b) []) :
    ((asn (.n 3 false) (.d (.int w)) [.val F, .val n, .val h, s3, .un]).bind fun _ r3 => evB call W f37_b0 r3) = if (b && ot.isNone) = true then .ok (.ret false (.bool false)) [.val F, .val n, .val h, .val (.int w), .un] else .ok .nx [.val F, .val n, .val h, .val (.int w), .un] := by
  cases ot <;> cases b <;> simp! [f37_b0, sto_free h3, e1, e2, isOf_optL] <;> rfl
theorem max_ints (x : Int) (l : List Int) : b1 .max (.list ((x :: l).map PyData.int)) = some (.d (.int (maxL x l))) := by
  have e := ints_map (fun i : Int => i) (x :: l)
  rw [List.map_id'] at e
  show (match intsL ((x :: l).map PyData.int) with | some (x :: r) => some (TV.d (.int (maxL x r))) | _ => none) = _
  rw [show intsL ((x :: l).map PyData.int) = some (x :: l) from e]
theorem en37L (F n : D) (A B : List Int) (h : Int) (b : Bool) (t3 : Sl) (c0 : (ev call f37_c0).1 [.val F, .val n, .un, .un, .un] = .ok (.f (.list (A.map PyData.int))) [.val F, .val n, .un, .un, .un]) (c1 : (ev call f37_c1).1 [.val F, .val n, .un, .un, .un] = .ok (.f (.list (B.map PyData.int))) [.val F, .val n, .un, .un, .un])
    (e1 : bop .add (.list [.int 0]) (.list (A.map PyData.int)) = some (.f (.list ((0 :: A).map PyData.int)))) (e2 : bop .add (.list ((0 :: A).map PyData.int)) (.list (B.map PyData.int)) = some (.f (.list ((0 :: (A ++ B)).map PyData.int)))) (e3 : b1 .max (.list ((0 :: (A ++ B)).map PyData.int)) = some (.d (.int h)))
    (el : evS call W f37_l0 [.val F, .val n, .val (.int h), .un, .un] = if b = true then .ok (.ret false (.bool false)) [.val F, .val n, .val (.int h), t3, .un] else .ok .nx [.val F, .val n, .val (.int h), t3, .un]) :
    endK [.val F, .val n] (evB call W f37.body [.val F, .val n, .un, .un, .un]) = .ok false (.bool (!b)) [] := by
  obtain ⟨Z, hZ⟩ : ∃ Z, Z = f37_l0 := ⟨_, rfl⟩
  obtain ⟨C0, hC0⟩ : ∃ Z, Z = f37_c0 := ⟨_, rfl⟩
  obtain ⟨C1, hC1⟩ : ∃ Z, Z = f37_c1 := ⟨_, rfl⟩
  rw [← hZ] at el
  rw [← hC0] at c0
  rw [← hC1] at c1
  simp only [f37]
  rw [← hZ, ← hC0, ← hC1]
  generalize (0 :: A).map PyData.int = A0 at *
  generalize (0 :: (A ++ B)).map PyData.int = B0 at *
  cases b with
  | false => simp! [c0, c1, e1, e2, e3, el]
  | true => simp! [c0, c1, e1, e2, e3, el]
end
theorem may22 {N : Nat} (hN : 15 ≤ N) {l : List Th} (h : Psg l) {m : Int} (hm : 0 ≤ m ∧ m ≤ 10) : callN P W N 22 [.val (.tuple (encs l)), .val (.int m)] = .ok false (.bool (partM (allP (fitF l m) (manyM l)) (manyM l)).isNone) [] := by
  obtain ⟨M, rfl⟩ : ∃ M, N = M + 1 := ⟨N - 1, by omega⟩
  rw [step (df := f22) rfl rfl]
  exact b22 _ _ m _ (need9 (by omega) h) (need16 (by omega) m 0 10 hm.1 hm.2) (part21 (by omega) h hm)
theorem shown23 {N : Nat} (hN : 15 ≤ N) {l : List Th} (h : Psg l) {m : Int} (hm : 0 ≤ m ∧ m ≤ 10) : callN P W N 23 [.val (.tuple (encs l)), .val (.int m)] = .ok false (optD (partM (allP (fitF l m) (manyM l)) (manyM l))) [] := by
  obtain ⟨M, rfl⟩ : ∃ M, N = M + 1 := ⟨N - 1, by omega⟩
  rw [step (df := f23) rfl rfl]
  exact b23 _ _ m _ (need9 (by omega) h) (need16 (by omega) m 0 10 hm.1 hm.2) (part21 (by omega) h hm)
theorem lrg_in (h : Int) (h0 : 0 ≤ h) (h1 : h ≤ 1000000) : u1 .lrg (.int h) = some (.f (.list ((inR 0 h.toNat).map PyData.int))) := by
  rw [← rng_inR]
  exact if_pos ⟨h0, by omega⟩
theorem find_any {α : Type} (q : α → Bool) : ∀ l : List α, (l.find? q).isSome = l.any q
  | [] => rfl
  | x :: l => by
    rw [List.find?_cons, List.any_cons]
    cases h : q x with
    | true => rfl
    | false => exact find_any q l
theorem lawmay37 {N : Nat} (hN : 3 ≤ N) {ps : List Pr} (h : Okp ps) (hl : ps.length ≤ 21) {many : Nat} (hp : many ≤ 6) (h0 : 0 < many) : callN P W N 37 [.val (pD ps), .val (.int many)] = .ok false (.bool (partM ps many).isNone) [] := by
  obtain ⟨M, rfl⟩ : ∃ M, N = M + 3 := ⟨N - 3, by omega⟩
  rw [step (df := f37) rfl rfl]
  have hb := high_b h
  obtain ⟨r', ⟨s3, g3, hr⟩, el⟩ := for_search (f := fun x r2 => (asn (.n 3 false) (.d x) r2).bind fun _ r3 => evB (callN P W (M + 2)) W f37_b0 r3) (en := PyData.int) (parts ps many) (fun _ => PyData.bool false) false
    (fun r => ∃ s3, Free s3 ∧ r = [.val (pD ps), .val (.int many), .val (.int (highL ps)), s3, .un]) (widthsL ps) (fun w _ r ⟨s3, h3, hr⟩ => by
      subst hr
      have e := b0_37 (callN P W (M + 2)) (pD ps) (.int many) (.int (highL ps)) w s3 h3 _ _ (taken35 ps many hp w) (can36 ps many hp w)
      refine ⟨fun hq => ⟨_, ?_, .val (.int w), .inr ⟨_, rfl⟩, rfl⟩, fun hq => ⟨_, ?_, .val (.int w), .inr ⟨_, rfl⟩, rfl⟩⟩
      · exact e.trans (if_pos hq)
      · refine e.trans (if_neg ?_)
        rw [show ((lookW (waysM (qP ps w) many) ((many : Int) - 1)).isSome && (takM (qP ps w) many many (-1) []).isNone) = false from hq]
        decide) _ ⟨.un, .inl rfl, rfl⟩
  subst hr
  have lf : (fins ps).length ≤ 21 := by
    unfold fins
    rw [List.length_map]
    exact Nat.le_trans (List.length_filter_le _ _) hl
  have ll : (los ps).length ≤ 21 := by unfold los; rw [List.length_map]; exact hl
  have hnot : (partM ps many).isNone = !(widthsL ps).any (parts ps many) := by
    rw [part_iff h h0]
    cases partM ps many <;> rfl
  rw [hnot]
  refine en37L (callN P W (M + 2)) _ _ (fins ps) (los ps) (highL ps) _ s3 (c0_37 _ ps (by omega) _ _ _) (c1_37 _ ps (by omega) _ _ _) (add_intsD [0] (fins ps) (by simp only [List.length_cons, List.length_nil]; omega)) (add_intsD (0 :: fins ps) (los ps) (by rw [List.length_cons]; omega)) (max_ints 0 _) ?_
  have ei : evI (callN P W (M + 2)) (.val (.bin .add (.un .lrg (.bin .add (.var 2) (.cst (.int 2)))) (.lst (.cons (.bin .pow (.cst (.int 10)) (.cst (.int 9))) .nil)))) [.val (pD ps), .val (.int many), .val (.int (highL ps)), .un, .un] = .ok ((widthsL ps).map PyData.int) [.val (pD ps), .val (.int many), .val (.int (highL ps)), .un, .un] := by
    have hpow : bop .pow (.int 10) (.int 9) = some (.d (.int 1000000000)) := by kernel_rfl
    have e := lrg_in (highL ps + 2) (by omega) (by omega)
    have ea := add_intsD (inR 0 (highL ps + 2).toNat) [1000000000] (by rw [inR_len]; simp only [List.length_cons, List.length_nil]; omega)
    have es : [PyData.int 1000000000] = ([1000000000] : List Int).map PyData.int := rfl
    unfold widthsL
    rw [← es] at ea
    generalize (inR 0 (highL ps + 2).toNat ++ [1000000000]).map PyData.int = E at *
    generalize (inR 0 (highL ps + 2).toNat).map PyData.int = E2 at *
    generalize highL ps = h at *
    generalize pD ps = F at *
    simp! [e, hpow, ea, itemsOf]
  rw [show f37_l0 = IS.fr (.n 3 false) (.val (.bin .add (.un .lrg (.bin .add (.var 2) (.cst (.int 2)))) (.lst (.cons (.bin .pow (.cst (.int 10)) (.cst (.int 9))) .nil)))) f37_b0 from rfl, s_for, ei, bind_ok']
  refine el.trans ?_
  rw [← find_any]
  cases (widthsL ps).find? (parts ps many) <;> rfl
section
variable (call : Nat → List Sl → CR)
theorem b38 (L F : D) (m n : Int) (PL : List D) (o : Option Int) (e1 : call 33 [.val L, .val (.int m)] = .ok true F []) (e2 : call 30 [.val L] = .ok true (.list PL) []) (e3 : b1 .len (.list PL) = some (.d (.int n))) (e4 : call 37 [.val F, .val (.int n)] = .ok false (.bool o.isNone) [])
    (e5 : call 23 [.val L, .val (.int m)] = .ok false (optD o) []) (e6 : call 22 [.val L, .val (.int m)] = .ok false (.bool o.isNone) []) (e7 : ∀ w, o = some w → (0 ≤ w ∧ w ≤ 1000000000) ∧ call 35 [.val F, .val (.int n), .val (.int w)] = .ok false (optL none) [] ∧ call 36 [.val F, .val (.int n), .val (.int w)] = .ok false (.bool true) []) :
    endK [.val L, .val (.int m)] (evB call W f38.body ([.val L, .val (.int m)] ++ List.replicate (f38.names.length - f38.np) .un)) = .ok false (.bool true) [] := by
  have hpow : bop .pow (.int 10) (.int 9) = some (.d (.int 1000000000)) := by kernel_rfl
  have rp : ∀ b : Bool, b1 .repr (.bool b) = some (.d (.str (if b then "True" else "False"))) := fun _ => rfl
  have i0 : isOf (optL none) .none = some true := rfl
  cases o with
  | none => simp! [f38, e1, e2, e3, e4, e5, e6, rp, optD]
  | some w =>
    obtain ⟨⟨w0, w1⟩, g1, g2⟩ := e7 w rfl
    have t1 : isTy .int (.int w) = true := rfl
    have t2 : notDict (.int w) = true := rfl
    simp! [f38, e1, e2, e3, e4, e5, e6, rp, optD, hpow, chn_leT, w0, w1, g1, g2, t1, t2, i0]
end
theorem right38 {N : Nat} (hN : 17 ≤ N) {l : List Th} (h : Psg l) {m : Int} (hm : 0 ≤ m ∧ m ≤ 10) : callN P W N 38 [.val (.tuple (encs l)), .val (.int m)] = .ok false (.bool true) [] := by
  obtain ⟨M, rfl⟩ : ∃ M, N = M + 3 := ⟨N - 3, by omega⟩
  have hp : manyM l ≤ 6 := h.pl
  have h0 := many_pos h
  have ok := okp_all h hm
  rw [step (df := f38) rfl rfl]
  refine b38 _ _ _ m _ _ (partM (allP (fitF l m) (manyM l)) (manyM l)) (pairs37 (by omega) h hm) (places33 (by omega) l (by have := h.cnt; omega)) (len_pl l) (lawmay37 (by omega) ok (len_all l m hp) hp h0) (shown23 (by omega) h hm) (may22 (by omega) h hm) fun w hw => ?_
  obtain ⟨g1, g2⟩ := part_some ok h0 hw
  unfold parts at g1
  rw [Bool.and_eq_true] at g1
  have e1 := taken35 (N := M) (allP (fitF l m) (manyM l)) (manyM l) hp w
  have e2 := can36 (N := M) (allP (fitF l m) (manyM l)) (manyM l) hp w
  rw [Option.isNone_iff_eq_none.mp g1.2] at e1
  rw [g1.1] at e2
  exact ⟨g2, e1, e2⟩
end K65

end
section
set_option maxRecDepth 100000
local macro_rules | `(tactic| simp! [$ts,*]) => `(tactic| simp only [Ev.bind_ok', Ev.bind_stuck', Ev.bind_ite, Ev.of_some', Ev.of_none', Ev.of_ite, Ev.slD_val, Ev.slD_own, Ev.slD_bor, Ev.deref_d, Ev.deref_f, Ev.deref_s, Ev.tru_eq, Ev.truS_some, Ev.truth_bool, Ev.truth_int, Ev.truth_list, Ev.truth_tuple, Ev.un1S_some, Ev.bi2S_some, Ev.andK_b, Ev.orK_b, Ev.negK_i, Ev.varK_val, Ev.varK_own, Ev.varK_bor, Ev.solS_val, Ev.solS_own, Ev.sol_d, Ev.sol_f, Ev.sol_s, Ev.muS_own, Ev.muS_bor, Ev.mutAt_eq, Ev.bop_add, Ev.bop_sub, Ev.bop_mul, Ev.bop_div, Ev.bop_mod, Ev.bop_tup, Ev.bop_lst, Ev.cop_lt, Ev.cop_le, Ev.cop_gt, Ev.cop_ge, Ev.cop_eqi, Ev.cop_eqs, Ev.cop_nei, Ev.cop_nes, Ev.cop_is, Ev.cop_isNot, Ev.cop_in, Ev.is_bb, Ev.e_none, Ev.e_bool, Ev.e_int, Ev.e_str, Ev.e_var, Ev.e_glob, Ev.e_bin, Ev.e_neg, Ev.e_cmp, Ev.chnS_some, Ev.e_chn, Ev.e_not, Ev.e_and, Ev.e_or, Ev.e_ife, Ev.e_tup, Ev.e_lst, Ev.e_idx, Ev.e_isi, Ev.e_bl1, Ev.e_un, Ev.e_bl2, Ev.callK_v, Ev.callK_f, Ev.callK_v1, Ev.callK_f1, Ev.callK_v2, Ev.argK_some, Ev.e_call, Ev.argsS_nil, Ev.argsS_v, Ev.argsS_l, Ev.lends_nil, Ev.lends_v, Ev.lends_l, Ev.a_nil, Ev.a_cons, Ev.r_nil, Ev.r_cons, Ev.lendK_some, Ev.r_lend, Ev.o_no, Ev.derK_some, Ev.o_yes, Ev.t_no, Ev.t_yes, Ev.i_val, Ev.slS_some, Ev.e_slc, Ev.opt_none, Ev.opt_int, Ev.slice_list, Ev.slice_tup, Ev.e_dsp, Ev.dicS_some, Ev.e_mg2, Ev.rgK_i, Ev.i_rg1, Ev.rgK2_i, Ev.i_rg2, Ev.enK_some, Ev.i_enm, Ev.zpK_some, Ev.i_zip, Ev.c_cst, Ev.c_var, Ev.c_cmp, Ev.c_chn, Ev.c_isi, Ev.c_call, Ev.c_bl1, Ev.c_not, Ev.c_and, Ev.c_or, Ev.c_ife, Ev.seqK_nx, Ev.seqK_brk, Ev.seqK_cnt, Ev.seqK_ret, Ev.seqK_exc, Ev.seqK_stuck, Ev.seqK_ite, Ev.b_nil, Ev.b_cons, Ev.retK_d, Ev.retK_f, Ev.s_ret, Ev.s_retN, Ev.s_asg, Ev.s_ex, Ev.s_if, Ev.s_for, Ev.s_whl, Ev.s_pas, Ev.s_rse, Ev.stoK_un, Ev.stoK_val, Ev.stoK_own, Ev.asn_d, Ev.asn_f, Ev.asn_fo, Ev.asn_t, Ev.asnL_nil, Ev.asnL_cons, Ev.asnP_nil, Ev.asnP_cons, Ev.s_asp, Ev.fK_f, Ev.fK_d, Ev.fK_s, Ev.f_nil, Ev.f_cons, Ev.lendF_some, Ev.setS_own, Ev.setS_bor, Ev.setAt_eq, Ev.ixK_some, Ev.setK_l, Ev.s_sto, Ev.outs_nil, Ev.outs_v, Ev.outs_b, Ev.endK_nx, Ev.endK_ret, Ev.endK_exc, Ev.endK_stuck, Ev.endK_ite, Ev.endS_some, Ev.endCall_eq, Ev.e_emp, Ev.e_din, Ev.e_dix, Ev.sdkS_some, Ev.e_sdk, Ev.e_tin, Ev.e_tix, Ev.e_tg1, Ev.e_tg2, Ev.e_sdt, Ev.c_din, Ev.c_tin, Ev.s_dst, Ev.s_tst, Ev.isN_none, Ev.isN_bool, Ev.isN_int, Ev.isN_str, Ev.isN_list, Ev.isN_tup, Ev.isN_dict, Ev.e_mg1, Ev.appL_l, Ev.appK_l, Ev.s_app, Ev.nd_none, Ev.ty_int_none, Ev.ty_bool_none, Ev.ty_str_none, Ev.ty_tuple_none, Ev.ty_list_none, Ev.nd_bool, Ev.ty_int_bool, Ev.ty_bool_bool, Ev.ty_str_bool, Ev.ty_tuple_bool, Ev.ty_list_bool, Ev.nd_int, Ev.ty_int_int, Ev.ty_bool_int, Ev.ty_str_int, Ev.ty_tuple_int, Ev.ty_list_int, Ev.nd_str, Ev.ty_int_str, Ev.ty_bool_str, Ev.ty_str_str, Ev.ty_tuple_str, Ev.ty_list_str, Ev.nd_list, Ev.ty_int_list, Ev.ty_bool_list, Ev.ty_str_list, Ev.ty_tuple_list, Ev.ty_list_list, Ev.nd_tup, Ev.ty_int_tup, Ev.ty_bool_tup, Ev.ty_str_tup, Ev.ty_tuple_tup, Ev.ty_list_tup, Ev.nd_dict, Ev.ty_int_dict, Ev.ty_bool_dict, Ev.ty_str_dict, Ev.ty_tuple_dict, Ev.ty_list_dict, List.getElem?_cons_zero, List.getElem?_cons_succ, List.getElem?_nil, List.set_cons_zero, List.set_cons_succ, List.length_cons, List.length_nil, List.replicate_succ, List.replicate_zero, List.cons_append, List.nil_append, List.append_nil, List.nodup_nil, List.nodup_cons, List.mem_cons, List.not_mem_nil, List.isEmpty_nil, List.isEmpty_cons, Option.map_some, Option.map_none, Option.bind_some, Option.bind_none, Option.getD_some, Option.getD_none, Option.isSome_some, Option.isSome_none, Option.isNone_some, Option.isNone_none, ite_true, ite_false, if_true, if_false, decide_true, decide_false, decide_eq_true_eq, Bool.not_true, Bool.not_false, Bool.not_not, Bool.true_and, Bool.false_and, Bool.and_true, Bool.and_false, Bool.or_true, Bool.or_false, Bool.true_or, Bool.false_or, Bool.not_eq_true, Bool.not_eq_true', Bool.and_self, Bool.or_self, Bool.false_eq_true, reduceCtorEq, not_true_eq_false, not_false_eq_true, or_false, false_or, or_true, true_or, and_true, true_and, and_false, false_and, eq_self, bne_self_eq_false, Nat.reduceAdd, Nat.reduceSub, Nat.reduceLeDiff, Nat.reduceLT, Nat.reduceEqDiff, Nat.zero_add, Nat.reduceMul, Int.reduceNeg, Int.reduceAdd, Int.reduceSub, Int.reduceMul, Int.reduceLT, Int.reduceLE, Int.reduceEq, Int.reduceDiv, Int.reduceMod, Int.reduceToNat, Int.reducePow, Nat.succ_ne_zero, Nat.add_eq_zero_iff, Nat.le_refl, Nat.one_ne_zero, ↓reduceIte, Ev.SZ, $ts,*])
set_option linter.all false
set_option maxHeartbeats 4000000
/-! The law. -/
namespace K65
open PySem Ev
abbrev S39 (v x : D) (s2 : Sl) : Ev.Env := [.val v, .own x, s2, .un, .un, .un, .un, .un, .un, .un, .un, .un]
theorem b39 (call : Nat → List Sl → CR) (v c c1 c2 L m : D) (s2 : Sl) (e1 : call 29 [.bor c, .val (.int 4)] = .ok false L [c1]) (e2 : call 26 [.bor c1, .val (.list [.int 0, .int 1, .int 1, .int 2])] = .ok false m [c2]) (e3 : call 38 [.val L, .val m] = .ok false (.bool true) []) :
    evB call W f39_b1 (S39 v c s2) = .ok .nx (S39 v c2 s2) := by
  simp! [f39_b1, S39, e1, e2, e3]
theorem turn39 {N : Nat} (hN : 17 ≤ N) (v : D) {x : D} (hk : Cup x) (i : Int) (s2 : Sl) (h2 : Free s2) : ∃ x' : D, Cup x' ∧ ((asn (.n 2 false) (.d (.int i)) (S39 v x s2)).bind fun _ r3 => evB (callN P W N) W f39_b1 r3) = .ok .nx (S39 v x' (.val (.int i))) := by
  obtain ⟨c1, l, k1, hp, e1⟩ := psg32 (N := N) (by omega) hk
  obtain ⟨q, c2, e2, hq, k2⟩ := some_ge (N := N) (by omega) k1 (l := [.int 0, .int 1, .int 1, .int 2]) (by simp) (by simp)
  obtain ⟨q, rfl, hq'⟩ := int_mem (l := [0, 1, 1, 2]) hq
  have hqb : 0 ≤ q ∧ q ≤ 2 := int_in (l := [0, 1, 1, 2]) (lo := 0) (hi := 2) (by decide) hq'
  have e3 := right38 hN hp (m := q) (by omega)
  refine ⟨c2, k2, ?_⟩
  have ea : asn (.n 2 false) (.d (.int i)) (S39 v x s2) = .ok () (S39 v x (.val (.int i))) := by simp! [S39, sto_free h2]
  rw [ea, bind_ok']
  exact b39 _ v x c1 c2 _ _ _ e1 e2 e3
def dropB : IB → Nat → IB
  | l, 0 => l
  | .cons _ l, n + 1 => dropB l n
  | .nil, _ => .nil
theorem body39 : f39.body = .cons (.asg (.n 1 true) (.call 24 "_law_cup" (.cons (.var 0) .nil))) (.cons f39_l1 (dropB f39.body 2)) := rfl
set_option maxHeartbeats 0 in
theorem end39 (v x : D) : endK [.val v] (evB (callN P W 59) W (dropB f39.body 2) (S39 v x (.val (.int 1)))) = .ok false (.bool true) [] := by kernel_rfl
theorem pure39 : ∀ ns : List Int, ns.length ≤ 63 → callN (T.map (·.df)) 1000000 60 39 [.val (scriptD ns)] = .ok false (.bool true) [] := by
  intro ns hn
  obtain ⟨c, e0, k0⟩ := cup_ok 58 ns hn
  obtain ⟨v, hv⟩ : ∃ v, v = scriptD ns := ⟨_, rfl⟩
  rw [← hv] at e0 ⊢
  obtain ⟨c1, k1, e1⟩ := turn39 (N := 59) (by decide) v k0 0 .un (.inl rfl)
  obtain ⟨c2, k2, e2⟩ := turn39 (N := 59) (by decide) v k1 1 (.val (.int 0)) (.inr ⟨_, rfl⟩)
  have el : evS (callN P W 59) W f39_l1 (S39 v c .un) = .ok .nx (S39 v c2 (.val (.int 1))) := by
    rw [show f39_l1 = IS.fr (.n 2 false) (.rg1 (.cst (.int 2))) f39_b1 from rfl, s_for]
    have ei : evI (callN P W 59) (.rg1 (.cst (.int 2))) (S39 v c .un) = .ok [.int 0, .int 1] (S39 v c .un) := by rfl
    rw [ei, bind_ok', for_nx e1, for_nx e2]
    rfl
  have ea : evS (callN P W 59) W (.asg (.n 1 true) (.call 24 "_law_cup" (.cons (.var 0) .nil))) [.val v, .un, .un, .un, .un, .un, .un, .un, .un, .un, .un, .un] = .ok .nx (S39 v c .un) := by
    simp! [e0, S39]
  show callN P W (59 + 1) 39 [.val v] = _
  rw [step (df := f39) rfl rfl, body39]
  rw [show ([Sl.val v] ++ List.replicate (f39.names.length - f39.np) .un : Ev.Env) = [.val v, .un, .un, .un, .un, .un, .un, .un, .un, .un, .un, .un] from rfl]
  rw [b_cons, ea, seqK_nx, b_cons, el, seqK_nx]
  exact end39 v c2
end K65

end
section
set_option linter.all false
set_option maxRecDepth 100000
set_option maxHeartbeats 0
namespace K65
open PySem PySem.Spec PyProof.Rows L2 Ev
abbrev Pure : Prop := ∀ ns : List Int, ns.length ≤ 63 → callN (T.map (·.df)) 1000000 60 39 [.val (scriptD ns)] = .ok false (.bool true) []
end K65
open PySem PySem.W PySem.Calls PyProof.Rows
theorem K65.fin (hp : K65.Pure) : PySem.Challenge.rw_settlepages_k65_whole_lines_taken_for_al.Holds := by
  w_on; o_law
  refine HandSHeadRun.head_any (r := OpenLaw.row PySem.Challenge.rw_settlepages_k65_whole_lines_taken_for_al) (q := view (OpenLaw.row PySem.Challenge.rw_settlepages_k65_whole_lines_taken_for_al).prog [62]) (H := K65.hk) (ob := K65.ob) (M := 6000) (loose := K65.loose) (d := HandSHeadRun.topDef (OpenLaw.row PySem.Challenge.rw_settlepages_k65_whole_lines_taken_for_al).prog 62) (kwd := []) K65.ob_eq
    (by kernel_rfl) (fun s => by kernel_rfl) K65.run (by kernel_rfl) (by kernel_rfl) (by kernel_rfl) (by rfl) (by first | assumption | decide +kernel) (by decide +kernel) ⟨rfl, rfl, rfl, rfl, rfl, by decide +kernel⟩ ?hw ?hc
  case hw => w_witness2
  case hc =>
    refine L2.walk_ofE (l := PySem.Challenge.rw_settlepages_k65_whole_lines_taken_for_al) (n := 63) (k := 60) (x := "_law_script") (CX := L2.CX0) rfl (by decide) (by kernel_rfl) ⟨rfl, by decide, by decide⟩ ?F (fun _ _ _ _ z => z)
    intro w mg fa h Y G hmg0
    obtain ⟨K, KX, c⟩ := Y
    have hmg : mg ("law" : PySem.Str) = some (.ref fa) := by
      have e : (HandSHeadRun.topDef (OpenLaw.row PySem.Challenge.rw_settlepages_k65_whole_lines_taken_for_al).prog 62).name = ("law" : PySem.Str) := by kernel_rfl
      rw [← e]
      exact hmg0
    obtain ⟨fd, hb, hF⟩ := Ev.facts_of (P := (PySem.Challenge.rw_settlepages_k65_whole_lines_taken_for_al).prog) (w := w) (T := K65.T) (bs := K65.bs) (gl := K65.gl) (W := 1000000) (n := 60) (il := 39) (y := "_law_script") K65.hT K65.hB (by kernel_rfl) (d := ⟨K65.f39, L2.defArgs (K65.st 62), L2.defBody (K65.st 62), L2.defScope (K65.st 62)⟩) rfl rfl hp KX G hmg c
    exact ⟨K, fd, Ev.spLaw K, KX, hb, fun H a ns hl _ hS => ⟨a, ns, rfl, hl, hS, fun _ => rfl⟩, hF⟩

end
section
set_option linter.all false
set_option maxRecDepth 100000
set_option maxHeartbeats 0
theorem PySem.Challenge.cw_settlepages_k65_whole_lines_taken_for_al_holds : PySem.Challenge.rw_settlepages_k65_whole_lines_taken_for_al.Holds := by
  exact K65.fin K65.pure39

end