import PyProof.Rows.All
import HandS.ForMost
import HandS.DictTup
import KE.SortData
import HandS.Lambda
import HandS.TupAny
import HandS.TupMul
import HandS.TupLe
import HandS.IsInst
import HandS.Style
import HandS.Deep
import HandS.RaiseMore
import HandS.Walk
import HandS.Zip
import KE.GoesEnum
import KE.GoesZip
import KE.GoesMore
import HandS.Flow
import HandS.TryOnly
import HandS.Dict
import KE.KDictCopyH
import HandS.List
import HandS.Strs
import HandS.TupSets
import HandS.Conv
import HandS.More
import HandS.ListItems
import HandS.HeadHook3
import HandS.HeadHook4
import HandS.SetFor
import KE.KDictDisplayH
import KE.KDictItemsList
import HandS.ExcOwn
import HandS.CallSlots
import HandS.TryMany
import PyProof.ExcBaseAll.ValueError
import HandS.Codes
import HandS.Defaults
import KE.KStateDown
import HandS.Ends
import HandS.Words
import HandS.Head0
import HandS.Head1
import HandS.Head2
import HandS.HeadEnd
import HandS.HeadHook1
import HandS.HeadHook2
import HandS.HeadWalk
import HandS.EndTab
import KE.KNestM
import PySem.Challenge.RW_settlepages_k41_keys_lots_and_lines_refu
set_option Elab.async false
section
set_option linter.all false
set_option maxHeartbeats 4000000
/-! for k, v in d.items(), the keys of d tuples; d.pop(k) of such a dict. -/
namespace Ev
open PySem PySem.Spec PyProof.Rows L2
section
variable {X : Cx} {pins : List (Addr × Obj)} {σ : L2.St} {H : Hp} {s : Shared} {d : Addr} {o : Obj}
theorem frzT2 {kvs : List (List Key × V)} (I : Inv X pins σ H s) (h : H d = some (.frz o (.dT kvs))) :
    (d == sysModules) = false ∧ s.heap.get? d = some o ∧ o.ExactDict ∧ ∃ (es : Array DictEntry) (ep : Nat), o.data = .dict es ep ∧ es.size = kvs.length ∧
      ∀ (i : Nat) (k : List Key) (v : V), kvs[i]? = some (k, v) → ∃ (en : DictEntry) (q : Addr), es[i]? = some en ∧ en.key = .ref q ∧ H q = some (.tup (k.map kV)) ∧ RelV v en.val := by
  obtain ⟨hd, z, hs, xs, pr, o', es, ep, ho, hx, hdt, he, _⟩ := I.hok d _ h
  rw [hd] at ho
  cases ho
  refine ⟨hs, hd, hx, es, ep, hdt, ?_, fun i k v e => ?_⟩
  · have l1 : es.size = xs.length := size_of_entries he
    have l2 : kvs.length = xs.length := Paired.length pr
    omega
  · obtain ⟨b, hb, e1, e2, e3⟩ := paired_get pr e
    have q := entry_at he i
    rw [hb] at q
    exact ⟨_, b.2.1, q, rfl, e2, e3⟩
end
/-- the pairs of the locked dict, each a new tuple, the key's own tuple within -/
def ItiT (d : Addr) (o : Obj) (kvs : List (List Key × V)) : It :=
  ⟨fun i H => H d = some (.frz o (.dT kvs)) ∧ i < kvs.length, fun i H x H' => ∃ T k v q, kvs[i]? = some (k, v) ∧ x = .ref T ∧ H T = none ∧ H q = some (.tup (k.map kV)) ∧ H' = upd H T (.tup [.ref q, v]), fun i H => H d = some (.frz o (.dT kvs)) ∧ kvs.length ≤ i⟩
section
variable {P : Program} {w : World} {K : PySem.W.Frag} {tg : Expr} {d : Addr} {o : Obj} {es : Array DictEntry} {ep : Nat}
theorem turn_itemsT {kvs : List (List Key × V)} {elts : List Expr} {kk : Nat} {tpos : Pos} (it : Addr) (hod : o.data = .dict es ep) :
    Turn P w K (.Tuple elts kk tpos) (ItiT d o kvs) [it] it (fun i h => ∃ ok ov, IsItemIter h it d i kvs.length ep ok ov) where
  mem := by simp
  obj := fun i h st b hb => by
    have e : b = it := by simpa using hb
    subst e
    obtain ⟨ok, ov, e⟩ := st
    exact ⟨_, e, fun v z => nomatch z⟩
  keep := fun i h h' st k => let ⟨ok, ov, e⟩ := st; ⟨ok, ov, k it (by simp) _ e⟩
  item := by
    intro X hP hw hK hc i pins s σ H E I hf st hg
    subst hP hw hK
    obtain ⟨hd, hi⟩ := hg
    obtain ⟨hs, hgd, hx, es', ep', hdt, hsz, ent⟩ := frzT2 I hd
    obtain ⟨rfl, rfl⟩ := dict_ep hod hdt
    obtain ⟨⟨k, v⟩, hkv⟩ : ∃ p, kvs[i]? = some p := ⟨kvs[i], List.getElem?_eq_getElem hi⟩
    obtain ⟨en, q, hen, hkey, hq, ru⟩ := ent i k v hkv
    obtain ⟨ok, ov, he⟩ := st
    rw [← hsz] at he
    have hlt : it < s.heap.objs.size := Heap.lt_size he
    have hil : i < es'.size := by omega
    have hen2 : es'[i] = en := by
      rw [Array.getElem?_eq_getElem hil] at hen
      exact Option.some.inj hen
    refine DT.nextI he ⟨o, hgd, hx, hdt⟩ hil fun h' ho hT hz hk => ?_
    rw [hen2] at ho hT
    refine ⟨_, rfl, wpAny_letOwnedTupleGo_items (s := { s with heap := h' }) ho fun h'' he' sb => ?_⟩
    have hT2 : h''.get? s.heap.objs.size = some { cls := .type "tuple", data := .seq #[en.key, en.val] } := (sb.2 _ (Nat.ne_of_gt hlt)).trans hT
    have new : ObjOk X.prog X.w (upd H s.heap.objs.size (.tup [.ref q, v])) h'' s.heap.objs.size (.tup [.ref q, v]) :=
      ⟨by show 2 ≤ sizeLine; decide, [en.key, en.val], .cons hkey (.cons ru .nil), ⟨_, hT2, rfl, _, rfl⟩⟩
    have I1 : Inv X pins σ (upd H s.heap.objs.size (.tup [.ref q, v])) { s with heap := h'' } :=
      I.turnedNew (t' := s.toks) (ch := [it]) (fun b ob hb e => (sb.2 b (by simpa using hb)).trans (hk b ob (by simpa using hb) e)) hf (Nat.le_refl _) new
    refine ⟨.ref s.heap.objs.size, _, I1, rfl, ⟨_, k, v, q, hkv, rfl, I.hok.fresh (Nat.le_refl _), hq, rfl⟩, ⟨en.key, en.val, ?_⟩, fun b hb => ?_⟩
    · rw [← hsz]; exact he'
    · have e : b = it := by simpa using hb
      rw [e, upd_ne (Nat.ne_of_lt hlt)]
      exact (hf it (by simp)).1
  done := by
    intro X hP hw hK hc i pins s σ H E I hf st hg
    subst hP hw hK
    obtain ⟨hd, hi⟩ := hg
    obtain ⟨f0, f1, f2, f3, f4, f5⟩ := hf it (by simp)
    obtain ⟨hs, hgd, hx, es', ep', hdt, hsz, ent⟩ := frzT2 I hd
    obtain ⟨rfl, rfl⟩ := dict_ep hod hdt
    obtain ⟨ok, ov, he⟩ := st
    rw [← hsz] at he
    exact DT.endI (I.ok.hd hc) he ⟨o, hgd, hx, hdt⟩ (by omega) fun h' eb => ⟨rfl, I.turned (t' := s.toks) (fun b ob hb e => eb b ob hb e) f0 f1 f3 f4 f5⟩
  self := fun A i s Q E st h => let ⟨_, _, e⟩ := st; PySem.W.kcp_self e h
end
def iItemsT (td : TE) : TI := fun σ H R => td σ H fun x H1 => ∃ d o kvs, x = .ref d ∧ H1 d = some (.frz o (.dT kvs)) ∧ R (ItiT d o kvs) H1
section
variable {X : Cx} {tg e : Expr} {td : TE} {apos cpos : Pos}
theorem pi_itemsT {elts : List Expr} {kk : Nat} {tpos : Pos} (he : PE X e td) (hbase : attributeBase e "items" X.env (eval e X.env) = eval e X.env := by rfl) (hline : (apos.endLine == cpos.line) = true := by rfl) :
    PI X (.Tuple elts kk tpos) (.Call (.Attribute e "items" apos) [] [] cpos) (iItemsT td) := by
  refine ⟨fun pins s σ H R I h => ?_⟩
  refine wpAny_Call_method (T := "dict") (id := "dict.items") hbase rfl hline F.plainAttrs_dict F.slot_dict_items F.type_dict_items (thn (he.run pins s σ H _ I h) fun u s1 ⟨x, H1, I1, rx, d, o, kvs, ex, hd, q⟩ => ?_)
  subst ex
  obtain rfl : u = Value.ref d := rx
  obtain ⟨hs, hgd, hx, es, ep, hdt, hsz, ent⟩ := frzT2 I1 hd
  have hT : s1.TypeIs (.ref d) "dict" := ⟨o, hgd, hx.1⟩
  refine ⟨hT, ?_, ?_⟩
  · intro o' e'
    cases e'
    exact ⟨o, hgd, hx.2.1⟩
  have I2 : Inv X pins σ H1 { s1 with heap := s1.heap.push { cls := .type "dict_items", data := .fields #[.ref d] } } := I1.kept (t' := s1.toks) fun b ob q => Heap.get?_push_of_some _ q
  have raw : DT.Raw s1.heap d es ep := ⟨o, hgd, hx, hdt⟩
  have fin : wpAny (model X.prog X.w) X.A (pyIter (.ref s1.heap.objs.size)) (PIE X pins σ (.Tuple elts kk tpos) R) X.xe { s1 with heap := s1.heap.push { cls := .type "dict_items", data := .fields #[.ref d] } } := by
    refine DT.iterI (d := d) (es := es) (ep := ep) ⟨_, Heap.get?_push_size _ rfl, rfl, rfl⟩ (raw.push _) (pi_one (tk := s1.toks) I2 _ (turn_itemsT _ hdt) ⟨.none, .none, ?_⟩ q)
    rw [← hsz]
    exact Heap.get?_push_size _ rfl
  show wpAny _ _ (callWith cpos (.builtin "dict.items") [.ref d] [] []) _ X.xe s1
  exact method_meetsIn F.slot_dict_items F.entry_dict_items rfl (PySem.evalArgs_none ⟨rfl, hT, F.args_dict_items_1 _, _, DT.meetsItems (es := es) (ep := ep) hs, raw, fin⟩)
end
/-! ### d.pop(k), there -/
theorem call_pop_heap' {K : Type} [DecidableEq K] {prog : Program} {w : World} {knd : HeapKind prog w K} {A : Around} {E : Value → Shared → Prop} {s : Shared} {d b : Addr} {k : K} (hd : (d == sysModules) = false) :
    MeetsIn prog w (Builtin.«dict.pop» ⟨[.ref d, .ref b], []⟩) (fun A R s => ∃ xs p, knd.room A.in1 ∧ knd.is s.heap k b ∧ s.heap.DictOfH knd d xs ∧ xs.length ≤ sizeLine ∧ atKey xs k = some p ∧
      ∀ h' tk, h'.DictOfH knd d (DT.dropH xs k) → Heap.SameBut d s.heap h' → R (.ok (.ret p.2)) { s with heap := h', toks := tk }) :=
  .of_wp fun A R s ⟨xs, p0, hu, hkey, hm, hsz, hat, hsome⟩ => by
    obtain ⟨o, es, ep, ho, hc, hdat, he, his, hn⟩ := id hm
    have hes : es.size = xs.length := size_of_entries he
    have hpart : (keyPart (Value.ref b)).isSome = false := rfl
    unfold Builtin.«dict.pop»
    refine wpAny_bind ?_
    unfold Builtin.Dict.keyAndDefault
    refine wpAny_bind (wpAny_notOrdered_dict hm.typeIs ?_)
    show wpAny _ _ (pure (d, Value.ref b, none)) _ _ s
    refine wpAny_pure ?_
    simp only [hpart, Bool.false_eq_true, if_false]
    refine wpAny_bind (wpAny_dictEntries ho hdat (wpAny_bind (wpAny_pure ?_)))
    cases hem : es.isEmpty with
    | true =>
      have h0 : xs = [] := by
        have z : es.size = 0 := by simpa using hem
        exact List.length_eq_zero_iff.mp (by omega)
      rw [h0] at hat
      cases hat
    | false =>
      simp only [Bool.false_eq_true, if_false]
      refine wpAny_bind (DT.takeH hu hkey hm hsz (fun hno => ?_) fun p e hp hev h' hm' hs' => ?_)
      · rw [hat] at hno
        cases hno
      · rw [hat] at hp
        cases hp
        simp only [Option.isNone_some, Bool.false_eq_true, if_false]
        exact wpAny_bind (wpAny_letGo (wpAny_pure ⟨e.val, rfl, by rw [hev]; exact hsome h' _ hm' hs'⟩))
section
variable {X : Cx}
def tDPopT (td ty : TE) : TE := fun σ H Q => td σ H fun x H1 => ∃ a, x = .ref a ∧ IsD H1 a ∧ ty σ H1 fun y H2 => ∃ (kvs : List (List L2.Key × V)) (k : List L2.Key) (b : Addr) (v : V), H2 a = some (.dT kvs) ∧ y = .ref b ∧ H2 b = some (.tup (k.map kV)) ∧ valV kvs k = some v ∧ Q v (upd H2 a (.dT (dropK kvs k)))
theorem pe_dpopT {o e : Expr} {td ty : TE} {apos cpos : Pos} (hu : X.A.units + 1 < cLine) (ho : PE X o td) (he : PE X e ty) (m : M1 X o "pop" apos e cpos) : PE X (.Call (.Attribute o "pop" apos) [e] [] cpos) (tDPopT td ty) := by
  refine ⟨fun pins s σ H Q I h => ?_⟩
  refine wpAny_Call_method m.base m.few m.line PySem.F.plainAttrs_dict PySem.F.slot_dict_pop PySem.F.type_dict_pop (thn (ho.run pins s σ H _ I h) fun u s1 ⟨x, H1, I1, rx, a, ex, d, q1⟩ => ?_)
  subst ex
  obtain rfl : u = Value.ref a := rx
  obtain ⟨t1, t2, _⟩ := isD_at I1 d
  refine ⟨t1, t2, ?_⟩
  rw [m.trees]
  refine Calls.callWith_builtin rfl (Calls.evalArgs_plain (Calls.spliced_cons (thn (he.run pins s1 σ H1 _ I1 q1) fun iv s2 ⟨y, H2, I, ry, kvs, k, b, v, ea, ey, eb, l, q2⟩ => Calls.spliced_nil ?_)))
  subst ey
  obtain rfl : iv = Value.ref b := ry
  obtain ⟨z, hd, xs', rel, dd⟩ := dt_of I.hok ea
  have hz : xs'.length ≤ sizeLine := by rw [← Paired.length rel]; exact z
  have r := rel.val k
  rw [l] at r
  obtain ⟨p, hp, rv⟩ : ∃ p, atKey xs' k = some p ∧ RelV v p.2 := by
    cases ev : atKey xs' k with
    | none =>
      rw [ev] at r
      exact (show False from r).elim
    | some p =>
      rw [ev] at r
      exact ⟨p, rfl, r⟩
  refine call_meetsIn PySem.F.slot_dict_pop dd.typeIs PySem.F.entry_dict_pop (PySem.F.args_dict_pop_2 _ _) (call_pop_heap' (A := X.A) (E := X.xe) (s := s2) (knd := tupleKind (mixKind X.prog X.w)) (k := k) hd)
    ⟨xs', p, tupleKind_room_in1 hu, key_of I.hok eb, dd, hz, hp, fun h' tk dd' hs => ?_⟩
  obtain ⟨o, es, ep, hq, h2, h3, h4, _, h5⟩ := dd'
  have I2 : Inv X pins σ (upd H2 a (.dT (dropK kvs k))) { s2 with heap := h', toks := tk } :=
    d_write I (by rw [ea]; exact True.intro) hs ⟨o, hq⟩ ⟨Nat.le_trans (dropK_le kvs k) z, hd, _, (L2.DX.KT_drop k rel).keeps (fun c ys ec => (by rw [upd_ne (ne_of ec ea (fun z => nomatch z))]; exact ec)), o, es, ep, hq, h2, h3, h4, h5⟩
  exact ⟨v, _, I2, rv, q2⟩
end
end Ev

end
section
set_option linter.all false
/-! A small evaluator of Python's pure core over plain data, by fuel; no heap, no machine. -/
namespace Ev
open PySem

abbrev D := PyData
/-- a slot of a frame: nothing yet, a value, a list or dict of the frame's own, one that a caller lent -/
inductive Sl where
  | un | val (d : D) | own (d : D) | bor (d : D)
  /-- the object of the slot is walked: neither read nor written -/
  | lck
abbrev Env := List Sl
/-- what an expression gives: a value, a new object that nothing else knows, the object of a slot -/
inductive TV where
  | d (v : D) | f (v : D) | s (i : Nat)
inductive Res (α : Type) where
  | ok (a : α) (r : Env)
  | exc (c : Str) (d : D) (r : Env)
  | stuck
def Res.bind {α β : Type} (m : Res α) (f : α → Env → Res β) : Res β :=
  match m with
  | .ok a r => f a r
  | .exc c d r => .exc c d r
  | .stuck => .stuck
theorem bind_ok {α β : Type} (a : α) (r : Env) (f : α → Env → Res β) : (Res.ok a r).bind f = f a r := rfl
theorem bind_stuck {α β : Type} (f : α → Env → Res β) : (Res.stuck : Res α).bind f = .stuck := rfl
theorem bind_exc {α β : Type} (c : Str) (d : D) (r : Env) (f : α → Env → Res β) : (Res.exc c d r : Res α).bind f = .exc c d r := rfl
/-- an answer or none -/
def Res.of {α : Type} (o : Option α) (r : Env) : Res α :=
  match o with
  | some a => .ok a r
  | none => .stuck
theorem of_some {α : Type} (a : α) (r : Env) : Res.of (some a) r = .ok a r := rfl
theorem of_none {α : Type} (r : Env) : Res.of (none : Option α) r = .stuck := rfl

inductive Fl where
  | nx | brk | cnt | ret (fr : Bool) (v : D)
/-- what a call gives: whether the object is new, the value, what the lent objects are behind it -/
inductive CR where
  | ok (fr : Bool) (v : D) (outs : List D)
  | exc (c : Str) (d : D)
  | stuck

/-- nothing may be raised here -/
def nx {α : Type} : Res α → Res α
  | .ok a r => .ok a r
  | _ => .stuck
/-- what a catcher makes of a call's end: the value where nothing is raised (none: what was told, in a pair), a value for each class -/
structure Cat where
  ok : Option D
  tbl : List (Str × D)
def catR (k : Cat) : Res D → Res D
  | .ok v r => .ok (k.ok.getD (.tuple [.str "told", v])) r
  | .exc c _ r => match k.tbl.lookup c with
    | some v => .ok v r
    | none => .stuck
  | .stuck => .stuck
def deref (r : Env) : TV → Option D
  | .d v => some v
  | .f v => some v
  | .s i => match r[i]? with
    | some (.val d) => some d
    | some (.own d) => some d
    | some (.bor d) => some d
    | _ => none
def solid (r : Env) : TV → Option (D × Env)
  | .d v => some (v, r)
  | .f v => some (v, r)
  | .s i => match r[i]? with
    | some (.val d) => some (d, r)
    | some (.own d) => some (d, r.set i (.val d))
    | _ => none
def solidR (r : Env) (t : TV) : Res D :=
  match solid r t with
  | some (v, r') => .ok v r'
  | none => .stuck

/-- is it a dict? -/
def isDict : D → Bool
  | .dict [(.none, .list _)] => false
  | .dict _ => true
  | _ => false
def dictR (r : Env) (t : TV) : Res Unit :=
  match deref r t with
  | some u => if isDict u = true then .ok () r else .stuck
  | none => .stuck

/-! ### operators by values -/
inductive Bo where
  | add | sub | mul | div | mod | pow
  deriving DecidableEq
inductive Co where
  | eq | ne | lt | le | gt | ge | is | isNot | inn | notIn
  deriving DecidableEq
inductive Ty where
  | int | bool | str | tuple | list | dict
  deriving DecidableEq
inductive B1 where
  | abs | int | len | list | tuple | sum | all | any | max | min | sorted | str | repr
  deriving DecidableEq
inductive B2 where
  | max | min
  deriving DecidableEq

def SZ : Nat := 16777216
def P64 : Int := 18446744073709551616
def P63 : Int := 9223372036854775808
def P62 : Int := 4611686018427387904

def mulOk (i j : Int) : Bool := (decide (-P64 < i) && decide (i < P64)) || (decide (-P64 < j) && decide (j < P64))
/-- the value, and whether it is a new object -/
def bop : Bo → D → D → Option TV
  | .add, .int i, .int j => some (.d (.int (i + j)))
  | .add, .str x, .str y => if x.length + y.length ≤ SZ then some (.d (.str (x ++ y))) else none
  | .add, .tuple x, .tuple y => if x.length + y.length ≤ SZ then some (.d (.tuple (x ++ y))) else none
  | .add, .list x, .list y => if x.length + y.length ≤ SZ then some (.f (.list (x ++ y))) else none
  | .sub, .int i, .int j => some (.d (.int (i - j)))
  | .mul, .int i, .int j => if mulOk i j then some (.d (.int (i * j))) else none
  | .mul, .tuple x, .int k => if x.length ≤ 1000 ∧ k ≤ 1000 ∧ 2 ≤ k ∧ x.isEmpty = false then some (.d (.tuple (List.replicate k.toNat x).flatten)) else none
  | .mul, .list x, .int k => if x.length ≤ 1000 ∧ k ≤ 1000 ∧ 0 ≤ k then some (.f (.list (List.replicate k.toNat x).flatten)) else none
  | .div, .int i, .int j => if 0 < j ∧ j < 1073741824 then some (.d (.int (i / j))) else none
  | .mod, .int i, .int j => if 0 < j then some (.d (.int (i % j))) else none
  | .pow, .int i, .int j => if 0 ≤ j ∧ j ≤ 1000000 ∧ i.natAbs < 18446744073709551616 then some (.d (.int (i ^ j.toNat))) else none
  | _, _, _ => none

def scal : D → D → Bool
  | .none, .none => true
  | .none, .int _ => true
  | .int _, .none => true
  | .none, .bool _ => true
  | .bool _, .none => true
  | .none, .str _ => true
  | .str _, .none => true
  | .int _, .int _ => true
  | .bool _, .bool _ => true
  | .str _, .str _ => true
  | .int _, .str _ => true
  | .str _, .int _ => true
  | .bool _, .str _ => true
  | .str _, .bool _ => true
  | _, _ => false
def eqOk (a b : D) : Bool := scal a b || (SeqAt.shaped a && SeqAt.shaped b)
def flat : D → Bool
  | .none => true
  | .bool _ => true
  | .int _ => true
  | .str _ => true
  | _ => false
def inOf (a : D) : D → Option Bool
  | .str z => match a with
    | .str x => match x.cps.toList with
      | [c] => some (decide (c ∈ z.cps.toList))
      | _ => none
    | _ => none
  | .list ys => if flat a && ys.all flat then some (ys.any fun y => PyData.eqv y a)
    else if SeqAt.shaped a && SeqAt.shaped (.list ys) then some (ys.any fun y => PyData.eqv y a) else none
  | .tuple ys => if flat a && ys.all flat then some (ys.any fun y => PyData.eqv y a)
    else if SeqAt.shaped a && SeqAt.shaped (.tuple ys) then some (ys.any fun y => PyData.eqv y a) else none
  | _ => none
def isOf : D → D → Option Bool
  | a, .none => some (match a with | .none => true | _ => false)
  | .bool a, .bool b => some (a == b)
  | _, _ => none
def ltStr (x y : Str) : Bool := decide (x.cps.toList < y.cps.toList)
def cop : Co → D → D → Option Bool
  | .eq, a, b => if eqOk a b then some (PyData.eqv a b) else none
  | .ne, a, b => if eqOk a b then some (!PyData.eqv a b) else none
  | .lt, .int i, .int j => some (decide (i < j))
  | .le, .int i, .int j => some (decide (i ≤ j))
  | .gt, .int i, .int j => some (decide (j < i))
  | .ge, .int i, .int j => some (decide (j ≤ i))
  | .lt, .str x, .str y => some (ltStr x y)
  | .le, .str x, .str y => some (!ltStr y x)
  | .gt, .str x, .str y => some (ltStr y x)
  | .ge, .str x, .str y => some (!ltStr x y)
  | .is, a, b => isOf a b
  | .isNot, a, b => (isOf a b).map (!·)
  | .inn, a, b => inOf a b
  | .notIn, a, b => (inOf a b).map (!·)
  | _, _, _ => none
def truth : D → Option Bool
  | .none => some false
  | .bool b => some b
  | .int i => some (i != 0)
  | .str y => if y.length ≤ SZ then some ((y.length : Int) != 0) else none
  | .list xs => some (!xs.isEmpty)
  | .tuple xs => some (!xs.isEmpty)
  | _ => none
def notDict : D → Bool
  | .dict _ => false
  | _ => true
def isTy : Ty → D → Bool
  | .int, .int _ => true
  | .int, .bool _ => true
  | .bool, .bool _ => true
  | .str, .str _ => true
  | .tuple, .tuple _ => true
  | .list, .list _ => true
  | _, _ => false
def ixN (n : Nat) (i : Int) : Option Nat := if 0 ≤ i then (if i < n then some i.toNat else none) else if -(n : Int) ≤ i then some (i + n).toNat else none
def atI {α : Type} (xs : List α) (i : Int) : Option α := (ixN xs.length i).bind fun j => xs[j]?
def idx : D → D → Option D
  | .list xs, .int i => atI xs i
  | .tuple xs, .int i => atI xs i
  | .str z, .int i => if z.length ≤ SZ then (atI z.cps.toList i).map fun c => .str ⟨#[c]⟩ else none
  | _, _ => none
def sIx (n d : Nat) : Option Int → Nat
  | none => d
  | some v => if v < 0 then (v + (n : Int)).toNat else min v.toNat n
def cut {α : Type} (xs : List α) (lo hi : Option Int) : List α := (xs.drop (sIx xs.length 0 lo)).take (sIx xs.length xs.length hi - sIx xs.length 0 lo)
def slice (lo hi : Option Int) : D → Option TV
  | .list xs => some (.f (.list (cut xs lo hi)))
  | .tuple xs => some (.d (.tuple (cut xs lo hi)))
  | .str z => if z.length ≤ SZ then some (.d (.str ⟨(cut z.cps.toList lo hi).toArray⟩)) else none
  | _ => none
def intOf : D → Option Int
  | .int i => some i
  | _ => none
def intsL : List D → Option (List Int)
  | [] => some []
  | .int i :: r => (intsL r).map (i :: ·)
  | _ => none
def boolsL : List D → Option (List Bool)
  | [] => some []
  | .bool b :: r => (boolsL r).map (b :: ·)
  | _ => none
def maxL : Int → List Int → Int
  | m, [] => m
  | m, x :: r => maxL (if m < x then x else m) r
def minL : Int → List Int → Int
  | m, [] => m
  | m, x :: r => minL (if x < m then x else m) r
def insI (x : Int) : List Int → List Int
  | [] => [x]
  | y :: r => if x ≤ y then x :: y :: r else y :: insI x r
def sortI : List Int → List Int
  | [] => []
  | x :: r => insI x (sortI r)
def b1 : B1 → D → Option TV
  | .abs, .int i => some (.d (.int (if i < 0 then -i else i)))
  | .int, .int i => some (.d (.int i))
  | .len, .str y => if y.length ≤ SZ then some (.d (.int y.length)) else none
  | .len, .list xs => some (.d (.int xs.length))
  | .len, .tuple xs => some (.d (.int xs.length))
  | .list, .list xs => some (.f (.list xs))
  | .list, .tuple xs => some (.f (.list xs))
  | .list, .dict [(.none, .list xs)] => some (.f (.list xs))
  | .tuple, .list xs => some (.d (.tuple xs))
  | .tuple, .tuple xs => some (.d (.tuple xs))
  | .sum, .list xs => (intsL xs).map fun ns => .d (.int ns.sum)
  | .all, .list xs => (boolsL xs).map fun bs => .d (.bool (bs.all id))
  | .any, .list xs => (boolsL xs).map fun bs => .d (.bool (bs.any id))
  | .max, .list xs => match intsL xs with
    | some (x :: r) => some (.d (.int (maxL x r)))
    | _ => none
  | .min, .list xs => match intsL xs with
    | some (x :: r) => some (.d (.int (minL x r)))
    | _ => none
  | .str, .int i => if i.natAbs.log2 < 1920 then some (.d (.str (toString i))) else none
  | .repr, .bool b => some (.d (.str (if b then "True" else "False")))
  | .repr, .int i => if i.natAbs.log2 < 1920 then some (.d (.str (toString i))) else none
  | _, _ => none
def b2 : B2 → D → D → Option D
  | .max, .int i, .int j => some (.int (if j > i then j else i))
  | .min, .int i, .int j => some (.int (if j < i then j else i))
  | _, _, _ => none
def itemsOf : D → Option (List D)
  | .list xs => some xs
  | .tuple xs => some xs
  | .str z => some (z.cps.toList.map fun c => .str ⟨#[c]⟩)
  | _ => none
def listOf : D → Option (List D)
  | .list xs => some xs
  | .tuple xs => some xs
  | _ => none
def rng (lo : Int) : Nat → List D
  | 0 => []
  | n + 1 => .int lo :: rng (lo + 1) n
def small62 (i : Int) : Bool := decide (-P62 ≤ i) && decide (i < P62)
def enumD : Nat → List D → List D
  | _, [] => []
  | i, x :: r => .tuple [.int i, x] :: enumD (i + 1) r
def zipD : List D → List D → List D
  | x :: r, y :: q => .tuple [x, y] :: zipD r q
  | _, _ => []
def zip3D : List D → List D → List D → List D
  | x :: r, y :: q, z :: s => .tuple [x, y, z] :: zip3D r q s
  | _, _, _ => []
/-- the first place of an equal one -/
def firstIx : List D → D → Option Nat
  | [], _ => none
  | x :: r, v => if PyData.eqv x v = true then some 0 else (firstIx r v).map (· + 1)
def ixD : D → D → Option Nat
  | .list xs, v => if (SeqAt.shaped (.list xs) && SeqAt.shaped v) = true then firstIx xs v else none
  | _, _ => none
def lstR (r : Env) (t : TV) : Res Unit :=
  match deref r t with
  | some (.list _) => .ok () r
  | _ => .stuck

/-! ### dicts of ints and texts -/
def keyIs : D → D → Bool
  | .int i, .int j => i == j
  | .str x, .str y => x == y
  | _, _ => false
def isKey : D → Bool
  | .int _ => true
  | .str _ => true
  | _ => false
def lookD : List (D × D) → D → Option D
  | [], _ => none
  | p :: r, k => if keyIs p.1 k then some p.2 else lookD r k
def putD (ps : List (D × D)) (k v : D) : List (D × D) :=
  if (ps.any fun p => keyIs p.1 k) = true then ps.map (fun p => if keyIs p.1 k = true then (p.1, v) else p) else ps ++ [(k, v)]
/-- may tuples of whole numbers alone be keys? (then a constant of the text may not be such a tuple) -/
def intKeys : Bool := true
def isText : D → Bool
  | .str _ => true
  | _ => false
def isKeyT (ks : List D) : Bool := ks.all isKey && ((intKeys || ks.any isText) && !ks.isEmpty)
def dispD (ks : List Const) (vs : List D) : Option (List (D × D)) :=
  if ks.length = vs.length ∧ ks.length ≤ 15 ∧ ks ≠ [] ∧ (ks.all fun c => match c with | .int _ => true | .str _ => true | _ => false) then
    some ((ks.zip vs).foldl (fun ps p => match p.1 with
      | .int i => putD ps (.int i) p.2
      | .str x => putD ps (.str x) p.2
      | _ => ps) [])
  else none

/-! ### dicts whose keys are tuples: a first pair (none, 0) marks them -/
def keysEq : List D → List D → Bool
  | [], [] => true
  | a :: r, b :: q => keyIs a b && keysEq r q
  | _, _ => false
def tkIs : D → List D → Bool
  | .tuple es, ds => keysEq es ds
  | _, _ => false
def lookT : List (D × D) → List D → Option D
  | [], _ => none
  | p :: r, ks => if tkIs p.1 ks = true then some p.2 else lookT r ks
def putT (ps : List (D × D)) (ks : List D) (v : D) : List (D × D) :=
  if (ps.any fun p => tkIs p.1 ks) = true then ps.map (fun p => if tkIs p.1 ks = true then (p.1, v) else p) else ps ++ [(.tuple ks, v)]
def markT : D × D := (.none, .int 0)
def getT : D → List D → Option (Option D)
  | .dict ((.none, .int 0) :: ps), ks => if (ks.all isKey && decide (ks.length ≤ SZ)) = true then some (lookT ps ks) else none
  | _, _ => none
def intsT : D → Option (List Int)
  | .tuple ds => intsL ds
  | _ => none
def hashI (l : List Int) : Int := reduceHash (Builtin.Tuple.tupleHashOf (l.map hashInt))
def hashesT : List (D × D) → Option (List Int)
  | [] => some []
  | p :: r => match intsT p.1, hashesT r with
    | some l, some hs => some (hashI l :: hs)
    | _, _ => none
def nodupI : List Int → Bool
  | [] => true
  | x :: r => !r.contains x && nodupI r
/-- what d.get(k) finds -/
def getD1 : D → D → Option (Option D)
  | .dict ps, .tuple ks => if isKeyT ks = true then getT (.dict ps) ks else none
  | .dict ps, k => if isKey k && ps.all (fun p => isKey p.1) then some (lookD ps k) else none
  | _, _ => none
/-- d[k] = v -/
def mrgS : D → List D → D → Option D
  | .dict ((.none, .int 0) :: ps), ks, v => if ((ks.all isKey && decide (ks.length ≤ SZ)) && decide (ps.length < SZ)) = true then some (.dict (markT :: putT ps ks v)) else none
  | _, _, _ => none
/-- {**d, k: v} -/
def mrgK : D → D → D → Option D
  | .dict ps, k, v => if isKey k && ps.all (fun p => isKey p.1) && decide (ps.length < SZ) then some (.dict (putD ps k v)) else none
  | _, _, _ => none
/-- d[k] = v, k of any kind -/
def mrgP (u k v : D) : Option D := match k with
  | .tuple ks => if isKeyT ks = true then mrgS u ks v else none
  | k => mrgK u k v
def mrgT : D → List D → D → Option D
  | .dict ((.none, .int 0) :: ps), ks, v => match hashesT ps with
    | some hs => if ((ks.all isKey && decide (ks.length ≤ SZ)) && nodupI hs && decide (ps.length < SZ)) = true then some (.dict (markT :: putT ps ks v)) else none
    | none => none
  | _, _, _ => none

/-- {**d, k: v}, k a tuple that stands already -/
def mrgV (u k w : D) : Option D := match k with
  | .tuple ks => if isKeyT ks = true then mrgT u ks w else none
  | _ => none
def putAllT : List (D × D) → List (D × D) → List (D × D)
  | ps, [] => ps
  | ps, (.tuple ks, v) :: qs => putAllT (putT ps ks v) qs
  | ps, _ :: qs => putAllT ps qs
/-- {**a, **b}, the keys tuples -/
def mrg2 : D → D → Option D
  | .dict ((.none, .int 0) :: ps), .dict ((.none, .int 0) :: qs) => match hashesT ps, hashesT qs with
    | some hs, some gs => if ((nodupI hs && nodupI gs) && decide (ps.length + qs.length < SZ)) = true then some (.dict (markT :: putAllT ps qs)) else none
    | _, _ => none
  | _, _ => none
/-! ### built-ins of one argument, more -/
inductive U1 where
  | srt | sst | lns | lvs | lks | dks | dts | lrg | dcp | rev | its
  deriving DecidableEq
/-- a tuple with an item at least -/
def tupB : D → Bool
  | .tuple (_ :: _) => true
  | _ => false
def othB : D → Bool
  | .tuple _ => false
  | .none => false
  | _ => true
def srtOk (ds : List D) : Bool := decide (ds.length ≤ SZ) && (ds.all (fun d => ds.all (PySem.W.alike d)) && ((ds.all tupB || ds.all othB) && ds.all (fun d => decide (d.depth ≤ 60))))
def leD : D → D → Bool := PySem.W.dataLe false id
def srtD (ds : List D) : List D := ds.mergeSort leD
/-- ascending, each once -/
def insU (x : Int) : List Int → List Int
  | [] => [x]
  | y :: r => if x < y then x :: y :: r else if x = y then y :: r else y :: insU x r
def sortU : List Int → List Int
  | [] => []
  | x :: r => insU x (sortU r)
def itemsD : D → Option (List (D × D))
  | .dict [(.none, .list _)] => none
  | .dict ((.none, .int 0) :: ps) => some ps
  | .dict ps => if ps.all (fun p => isKey p.1) = true then some ps else none
  | _ => none
def pairsK : List D → Option (List (D × D))
  | [] => some []
  | .tuple [k, v] :: r => if isKey k = true then (pairsK r).map ((k, v) :: ·) else none
  | _ => none
def pairsT : List D → Option (List (List D × D))
  | [] => some []
  | .tuple [.tuple ks, v] :: r => if (isKeyT ks && decide (ks.length ≤ SZ)) = true then (pairsT r).map ((ks, v) :: ·) else none
  | _ => none
def u1 : U1 → D → Option TV
  | .srt, .list xs => if srtOk xs = true then some (.f (.list (srtD xs))) else none
  | .srt, .dict ((.none, .int 0) :: ps) => if srtOk (ps.map (·.1)) = true then some (.f (.list (srtD (ps.map (·.1))))) else none
  | .srt, .dict ps => if (ps.all fun p => isKey p.1) = true then (if srtOk (ps.map (·.1)) = true then some (.f (.list (srtD (ps.map (·.1))))) else none) else none
  | .sst, .list xs => if xs.length < 64 then (intsL xs).map fun ns => .f (.list ((sortU ns).map .int)) else none
  | .lns, .list xs => if xs.length < 64 then (intsL xs).map fun ns => .d (.int (sortU ns).length) else none
  | .lns, .tuple xs => if xs.length < 64 then (intsL xs).map fun ns => .d (.int (sortU ns).length) else none
  | .lvs, d => (itemsD d).map fun ps => .f (.list (ps.map (·.2)))
  | .lks, d => (itemsD d).map fun ps => .f (.list (ps.map (·.1)))
  | .dks, .list xs => if xs.length ≤ SZ then (pairsK xs).map fun ps => .f (.dict (ps.foldl (fun m p => putD m p.1 p.2) [])) else none
  | .dts, .list xs => if xs.length ≤ SZ then (pairsT xs).map fun ps => .f (.dict (markT :: ps.foldl (fun m p => putT m p.1 p.2) [])) else none
  | .dcp, .dict ps => if ps.all (fun p => isKey p.1) = true then some (.f (.dict ps)) else none
  | .rev, .list xs => some (.f (.list xs.reverse))
  | .rev, .tuple xs => some (.d (.tuple xs.reverse))
  | .its, .dict ((.none, .int 0) :: ps) => some (.f (.list (ps.map fun p => .tuple [p.1, p.2])))
  | .lrg, .int j => if 0 ≤ j ∧ j ≤ 16777216 then some (.f (.list (rng 0 j.toNat))) else none
  | _, _ => none
/-! ### the tree -/
inductive IT where
  | n (i : Nat) (m : Bool)
  | t (l : List IT)
mutual
inductive IE where
  | cst (d : Const)
  | var (i : Nat)
  | glob (x : Str) (d : D)
  | bin (o : Bo) (a b : IE)
  | neg (a : IE)
  | cmp (o : Co) (a b : IE)
  | chn (o p : Co) (a b c : IE)
  | not (a : IE)
  | and (a b : IE)
  | or (a b : IE)
  | ife (c a b : IE)
  | tup (l : IA)
  | lst (l : IA)
  | idx (a i : IE)
  | slc (a : IE) (lo hi : IO)
  | isi (a : IE) (t : Ty)
  | call (f : Nat) (x : Str) (l : IA)
  /-- g(lambda: f(..)), g a catcher -/
  | lamc (k : Cat) (g : Str) (f : Nat) (x : Str) (l : IA)
  | bl1 (b : B1) (a : IE)
  | un (u : U1) (a : IE)
  | bl2 (b : B2) (a c : IE)
  | ixo (a k : IE)
  | dsp (ks : List Const) (l : IA)
  | mg1 (o k : IE)
  | mg2 (o k d : IE)
  | kg2 (x : Str) (ps : List (Str × D)) (k d : IE)
  | emp (t : Bool)
  | dt1 (l : IA) (v : IE)
  | din (n : Bool) (k d : IE)
  | dix (d k : IE)
  | sdk (d k v : IE)
  | tin (n : Bool) (l : IA) (d : IE)
  | tix (d : IE) (l : IA)
  | tg1 (d : IE) (l : IA)
  | tg2 (d : IE) (l : IA) (e : IE)
  | sdt (d : IE) (l : IA) (v : IE)
  | sdv (d k v : IE)
  | sd2 (a b : IE)
  | pop (i : Nat)
  | cm1 (own : List (Str × Nat)) (elt : IE) (t : IT) (it : II) (c : IO)
  | cmo (own : List (Str × Nat)) (elt : IE) (t : IT) (i : Nat) (c : IO)
  | cmk (own : List (Str × Nat)) (elt : IE) (t : IT) (i : Nat) (c : IO)
  | cm2 (own : List (Str × Nat)) (own2 : List Nat) (elt : IE) (t : IT) (it : II) (c : IO) (t2 : IT) (it2 : II) (c2 : IO)
inductive IA where
  | nil
  | cons (a : IE) (r : IA)
  | lend (i : Nat) (r : IA)
inductive IO where
  | no
  | yes (a : IE)
inductive II where
  | val (a : IE)
  | rg1 (a : IE)
  | rg2 (a b : IE)
  | enm (a : IE)
  | zip (a b : IE)
  | zp3 (a b c : IE)
end
mutual
inductive IS where
  | asg (t : IT) (e : IE)
  | asp (t : List IT) (l : IA)
  | sto (i : Nat) (k e : IE)
  | dst (i : Nat) (k e : IE)
  | tst (i : Nat) (l : IA) (e : IE)
  | app (i : Nat) (e : IE)
  | ex (e : IE)
  | ret (e : IE)
  | retN
  | ifs (c : IE) (a b : IB)
  | whl (c : IE) (a : IB)
  | fr (t : IT) (it : II) (a : IB)
  | fri (t : IT) (i : Nat) (a : IB)
  /-- for t in d: the keys of a dict that stands -/
  | frk (t : IT) (i : Nat) (a : IB)
  | dpo (i : Nat) (k : IE)
  | pas | brk | cnt
  | rse (c : Str)
  /-- in a body that may raise: a statement that does not -/
  | qt (a : IS)
  | ifx (c : IE) (a b : IB)
  | rai (c : Str)
  | exx (f : Nat) (nm : Str) (l : IA)
  | rtx (f : Nat) (nm : Str) (l : IA)
  | asx (i : Nat) (m : Bool) (f : Nat) (nm : Str) (l : IA)
inductive IB where
  | nil
  | cons (a : IS) (r : IB)
end

/-! ### stores -/
def asn1 (i : Nat) (m : Bool) (v : TV) (r : Env) : Res Unit :=
  match r[i]? with
  | some (.bor _) => .stuck
  | some .lck => .stuck
  | none => .stuck
  | some _ => if m then
      match v with
      | .f d => .ok () (r.set i (.own d))
      | _ => .stuck
    else match solid r v with
      | some (d, r') => .ok () (r'.set i (.val d))
      | none => .stuck
def isSl : TV → Bool
  | .s _ => true
  | _ => false
mutual
def asn : IT → TV → Env → Res Unit
  | .n i m, v, r => asn1 i m v r
  | .t l, v, r => match deref r v with
    | some (.tuple xs) => asnL l xs r
    | some (.list xs) => if isSl v = true then .stuck else asnL l xs r
    | _ => .stuck
def asnL : List IT → List D → Env → Res Unit
  | [], [], r => .ok () r
  | t :: ts, x :: xs, r => (asn t (.d x) r).bind fun _ r' => asnL ts xs r'
  | _, _, _ => .stuck
end
def asnP : List IT → List TV → Env → Res Unit
  | [], [], r => .ok () r
  | t :: ts, x :: xs, r => (asn t x r).bind fun _ r' => asnP ts xs r'
  | _, _, _ => .stuck
/-- the object of a slot is changed -/
def setAt (r : Env) (i : Nat) (d : D) : Env :=
  match r[i]? with
  | some (.own _) => r.set i (.own d)
  | some (.bor _) => r.set i (.bor d)
  | _ => r
def mutAt (r : Env) (i : Nat) : Option D :=
  match r[i]? with
  | some (.own d) => some d
  | some (.bor d) => some d
  | _ => none

/-! ### loops -/
def forL (f : D → Env → Res Fl) : List D → Env → Res Fl
  | [], r => .ok .nx r
  | x :: xs, r => match f x r with
    | .ok .nx r' => forL f xs r'
    | .ok .cnt r' => forL f xs r'
    | .ok .brk r' => .ok .nx r'
    | .ok (.ret b v) r' => .ok (.ret b v) r'
    | .exc c d r' => .exc c d r'
    | .stuck => .stuck
def whileN (c : Env → Res Bool) (f : Env → Res Fl) : Nat → Env → Res Fl
  | 0, _ => .stuck
  | n + 1, r => (c r).bind fun t r1 => match t with
    | false => .ok .nx r1
    | true => match f r1 with
      | .ok .nx r' => whileN c f n r'
      | .ok .cnt r' => whileN c f n r'
      | .ok .brk r' => .ok .nx r'
      | .ok (.ret b v) r' => .ok (.ret b v) r'
      | .exc c d r' => .exc c d r'
      | .stuck => .stuck
/-- the keys of the dict that a slot holds -/
abbrev kysG (i : Nat) : Env → Res (List D) := fun r => match r[i]? with
  | some (.val d) => match itemsD d with
    | some ps => .ok (ps.map (·.1)) r
    | none => .stuck
  | _ => .stuck
def wipeE : List Nat → Env → Env
  | [], r => r
  | i :: l, r => (wipeE l r).set i .un
/-- the slots of a block's own names, as they were -/
def backE (r0 : Env) : List Nat → Env → Env
  | [], r => r
  | i :: l, r => (backE r0 l r).set i (r0.getD i .un)
/-- over the list that a slot holds: the item is looked up anew at each turn -/
def compO (f : D → Env → Res (List D)) (i : Nat) : Nat → Nat → Env → Res (List D)
  | 0, k, r => match mutAt r i with
    | some (.list xs) => if xs.length = k then .ok [] r else .stuck
    | _ => .stuck
  | n + 1, k, r => match mutAt r i with
    | some (.list xs) => match xs[k]? with
      | some x => match f x r with
        | .ok ys r' => match compO f i n (k + 1) r' with
          | .ok zs r'' => .ok (ys ++ zs) r''
          | _ => .stuck
        | _ => .stuck
      | none => .stuck
    | _ => .stuck
def compL (f : D → Env → Res (List D)) : List D → Env → Res (List D)
  | [], r => .ok [] r
  | x :: xs, r => match f x r with
    | .ok ys r' => match compL f xs r' with
      | .ok zs r'' => .ok (ys ++ zs) r''
      | _ => .stuck
    | _ => .stuck

def pairD (p : D × D) : D := .tuple [p.1, p.2]
/-- behind a loop over the pairs of a dict of the frame's own -/
def friK (i : Nat) (ps : List (D × D)) : Res Fl → Res Fl
  | .ok .nx r' => match r'[i]? with
    | some .lck => .ok .nx (r'.set i (.own (.dict (markT :: ps))))
    | _ => .stuck
  | .ok (.ret b v) r' => match r'[i]? with
    | some .lck => .ok (.ret b v) (r'.set i (.own (.dict (markT :: ps))))
    | _ => .stuck
  | _ => .stuck
/-- d.pop(k), there -/
def dropT (ps : List (D × D)) (ks : List D) : List (D × D) := ps.filter fun p => !tkIs p.1 ks
def popT : D → D → Option D
  | .dict ((.none, .int 0) :: ps), .tuple ks => if (isKeyT ks && (lookT ps ks).isSome) = true then some (.dict (markT :: dropT ps ks)) else none
  | _, _ => none

/-! ### calls -/
inductive Ar where
  | v (d : D) | l (i : Nat)
def lends : List Ar → List Nat
  | [] => []
  | .v _ :: r => lends r
  | .l i :: r => i :: lends r
def argS (r : Env) : Ar → Option Sl
  | .v d => some (.val d)
  | .l i => (mutAt r i).map .bor
def argsS (r : Env) : List Ar → Option (List Sl)
  | [] => some []
  | a :: l => (argS r a).bind fun s => (argsS r l).map (s :: ·)
def outsE : List Nat → List D → Env → Option Env
  | [], [], r => some r
  | i :: l, d :: ds, r => outsE l ds (setAt r i d)
  | _, _, _ => none
def doCall (call : Nat → List Sl → CR) (f : Nat) (as : List Ar) (r : Env) : Res TV :=
  match argsS r as with
  | none => .stuck
  | some ss => if (lends as).Nodup then
      match call f ss with
      | .ok fr v outs => match outsE (lends as) outs r with
        | some r' => .ok (if fr then .f v else .d v) r'
        | none => .stuck
      | .exc c d => if lends as = [] then .exc c d r else .stuck
      | .stuck => .stuck
    else .stuck

def cstD : Const → Option D
  | .none => some .none
  | .bool b => some (.bool b)
  | .int i => some (.int i)
  | .str s => some (.str s)
  | _ => none
def optI (o : Option D) : Option (Option Int) :=
  match o with
  | none => some none
  | some (.int i) => some (some i)
  | _ => none

/-! ### expressions -/
section
variable (call : Nat → List Sl → CR)
/-- a value's trees, and the test by its truth -/
def tst (f : Env → Res TV) : (Env → Res TV) × (Env → Res Bool) :=
  (f, fun r => (f r).bind fun x r1 => match deref r1 x with
    | some u => .of (truth u) r1
    | none => .stuck)
mutual
def ev : IE → (Env → Res TV) × (Env → Res Bool)
  | .cst d => tst fun r => match cstD d with
    | some v => .ok (.d v) r
    | none => .stuck
  | .var i => tst fun r => match r[i]? with
    | some (.val d) => .ok (.d d) r
    | some (.own _) => .ok (.s i) r
    | some (.bor _) => .ok (.s i) r
    | _ => .stuck
  | .glob _ d => tst fun r => .ok (.d d) r
  | .bin o a b => tst fun r => ((ev a).1 r).bind fun x r1 => ((ev b).1 r1).bind fun y r2 =>
      match deref r2 x, deref r2 y with
      | some u, some v => .of (bop o u v) r2
      | _, _ => .stuck
  | .neg a => tst fun r => ((ev a).1 r).bind fun x r1 => match x with
      | .d (.int i) => .ok (.d (.int (-i))) r1
      | _ => .stuck
  | .cmp o a b => tst fun r => ((ev a).1 r).bind fun x r1 => ((ev b).1 r1).bind fun y r2 =>
      match deref r2 x, deref r2 y with
      | some u, some v => .of ((cop o u v).map fun t => .d (.bool t)) r2
      | _, _ => .stuck
  | .chn o p a b c => tst fun r => ((ev a).1 r).bind fun x r1 => ((ev b).1 r1).bind fun y r2 =>
      match deref r2 x, deref r2 y with
      | some u, some v => match cop o u v with
        | some true => ((ev c).1 r2).bind fun z r3 => match deref r3 y, deref r3 z with
          | some v', some w => .of ((cop p v' w).map fun t => .d (.bool t)) r3
          | _, _ => .stuck
        | some false => .ok (.d (.bool false)) r2
        | none => .stuck
      | _, _ => .stuck
  | .not a => (fun r => ((tst (ev a).1).2 r).bind fun t r1 => .ok (.d (.bool (!t))) r1, fun r => ((ev a).2 r).bind fun t r1 => .ok (!t) r1)
  | .and a b => (fun r => ((ev a).1 r).bind fun x r1 => match x with
      | .d (.bool true) => (ev b).1 r1
      | .d (.bool false) => .ok (.d (.bool false)) r1
      | _ => .stuck, fun r => ((ev a).2 r).bind fun t r1 => match t with
      | true => (ev b).2 r1
      | false => .ok false r1)
  | .or a b => (fun r => ((ev a).1 r).bind fun x r1 => match x with
      | .d (.bool true) => .ok (.d (.bool true)) r1
      | .d (.bool false) => (ev b).1 r1
      | _ => .stuck, fun r => ((ev a).2 r).bind fun t r1 => match t with
      | true => .ok true r1
      | false => (ev b).2 r1)
  | .ife c a b => (fun r => ((ev c).2 r).bind fun t r1 => match t with
      | true => (ev a).1 r1
      | false => (ev b).1 r1, fun r => ((ev c).2 r).bind fun t r1 => match t with
      | true => (ev a).2 r1
      | false => (ev b).2 r1)
  | .tup l => tst fun r => (evA l r).bind fun xs r1 => if xs.length ≤ SZ then .ok (.d (.tuple xs)) r1 else .stuck
  | .lst l => tst fun r => (evA l r).bind fun xs r1 => if xs.length ≤ SZ then .ok (.f (.list xs)) r1 else .stuck
  | .idx a i => tst fun r => ((ev a).1 r).bind fun x r1 => ((ev i).1 r1).bind fun y r2 =>
      match deref r2 x, deref r2 y with
      | some u, some v => .of ((idx u v).map .d) r2
      | _, _ => .stuck
  | .slc a lo hi => tst fun r => ((ev a).1 r).bind fun x r1 => (evO lo r1).bind fun l r2 => (evO hi r2).bind fun h r3 =>
      match deref r3 x, optI l, optI h with
      | some u, some l', some h' => .of (slice l' h' u) r3
      | _, _, _ => .stuck
  | .isi a t => tst fun r => ((ev a).1 r).bind fun x r1 => match deref r1 x with
      | some u => if notDict u = true then .ok (.d (.bool (isTy t u))) r1 else .stuck
      | none => .stuck
  | .call f _ l => tst fun r => (evR l r).bind fun as r1 => doCall call f as r1
  | .lamc k _ f _ l => tst fun r => (nx (evR l r)).bind fun as r1 => (catR k ((doCall call f as r1).bind fun x r2 => solidR r2 x)).bind fun v r2 => .ok (.d v) r2
  | .bl1 b a => tst fun r => ((ev a).1 r).bind fun x r1 => match deref r1 x with
      | some u => .of (b1 b u) r1
      | none => .stuck
  | .un u a => tst fun r => ((ev a).1 r).bind fun x r1 => match deref r1 x with
      | some d => .of (u1 u d) r1
      | none => .stuck
  | .bl2 b a c => tst fun r => ((ev a).1 r).bind fun x r1 => ((ev c).1 r1).bind fun y r2 =>
      match deref r2 x, deref r2 y with
      | some u, some v => .of ((b2 b u v).map .d) r2
      | _, _ => .stuck
  | .ixo a k => tst fun r => ((ev a).1 r).bind fun x r1 => (lstR r1 x).bind fun _ r1 => ((ev k).1 r1).bind fun y r2 =>
      match deref r2 x, deref r2 y with
      | some u, some v => .of ((ixD u v).map fun j : Nat => .d (.int j)) r2
      | _, _ => .stuck
  | .dsp ks l => tst fun r => (evA l r).bind fun vs r1 => match dispD ks vs with
      | some ps => .ok (.f (.dict ps)) r1
      | none => .stuck
  | .mg1 o k => tst fun r => ((ev o).1 r).bind fun x r1 => (dictR r1 x).bind fun _ r1 => ((ev k).1 r1).bind fun y r2 =>
      match deref r2 x, deref r2 y with
      | some u, some v => .of ((getD1 u v).map fun t => .d (t.getD .none)) r2
      | _, _ => .stuck
  | .mg2 o k d => tst fun r => ((ev o).1 r).bind fun x r1 => (dictR r1 x).bind fun _ r1 => ((ev k).1 r1).bind fun y r2 => ((ev d).1 r2).bind fun z r3 => (solidR r3 z).bind fun w r4 =>
      match deref r4 x, deref r4 y with
      | some u, some v => .of ((getD1 u v).map fun t => .d (t.getD w)) r4
      | _, _ => .stuck
  | .kg2 _ ps k d => tst fun r => ((ev k).1 r).bind fun y r1 => ((ev d).1 r1).bind fun z r2 => (solidR r2 z).bind fun w r3 => match y with
      | .d (.str x) => .ok (.d ((ps.lookup x).getD w)) r3
      | _ => .stuck
  | .dt1 l v => tst fun r => (evA l r).bind fun ds r1 => ((ev v).1 r1).bind fun z r2 => (solidR r2 z).bind fun w r3 =>
      if isKeyT ds = true ∧ ds.length ≤ SZ then .ok (.f (.dict [markT, (.tuple ds, w)])) r3 else .stuck
  | .emp t => tst fun r => .ok (.f (.dict (if t = true then [markT] else []))) r
  | .din n k d => tst fun r => ((ev k).1 r).bind fun y r1 => ((ev d).1 r1).bind fun x r2 => match deref r2 x, deref r2 y with
      | some u, some v => .of ((getD1 u v).map fun t => .d (.bool (if n = true then t.isNone else t.isSome))) r2
      | _, _ => .stuck
  | .dix d k => tst fun r => ((ev d).1 r).bind fun x r1 => ((ev k).1 r1).bind fun y r2 => match deref r2 x, deref r2 y with
      | some u, some v => .of ((getD1 u v).bind fun t => t.map .d) r2
      | _, _ => .stuck
  | .sdk d k v => tst fun r => ((ev d).1 r).bind fun x r1 => match deref r1 x with
      | some u => ((ev k).1 r1).bind fun y r2 => ((ev v).1 r2).bind fun z r3 => (solidR r3 z).bind fun w r4 => match deref r4 y with
        | some kd => .of ((mrgK u kd w).map .f) r4
        | none => .stuck
      | none => .stuck
  | .tin n l d => tst fun r => (evA l r).bind fun ds r1 => ((ev d).1 r1).bind fun x r2 => match deref r2 x with
      | some u => .of ((getT u ds).map fun t => .d (.bool (if n = true then t.isNone else t.isSome))) r2
      | none => .stuck
  | .tix d l => tst fun r => ((ev d).1 r).bind fun x r1 => (evA l r1).bind fun ds r2 => match deref r2 x with
      | some u => .of ((getT u ds).bind fun t => t.map .d) r2
      | none => .stuck
  | .tg1 d l => tst fun r => ((ev d).1 r).bind fun x r1 => (dictR r1 x).bind fun _ r1 => (evA l r1).bind fun ds r2 => match deref r2 x with
      | some u => .of ((getT u ds).map fun t => .d (t.getD .none)) r2
      | none => .stuck
  | .tg2 d l e => tst fun r => ((ev d).1 r).bind fun x r1 => (dictR r1 x).bind fun _ r1 => (evA l r1).bind fun ds r2 => ((ev e).1 r2).bind fun z r3 => (solidR r3 z).bind fun w r4 => match deref r4 x with
      | some u => .of ((getT u ds).map fun t => .d (t.getD w)) r4
      | none => .stuck
  | .sdt d l v => tst fun r => ((ev d).1 r).bind fun x r1 => match deref r1 x with
      | some u => (evA l r1).bind fun ds r2 => ((ev v).1 r2).bind fun z r3 => (solidR r3 z).bind fun w r4 => .of ((mrgT u ds w).map .f) r4
      | none => .stuck
  | .sdv d k v => tst fun r => ((ev d).1 r).bind fun x r1 => match deref r1 x with
      | some u => ((ev k).1 r1).bind fun y r2 => ((ev v).1 r2).bind fun z r3 => (solidR r3 z).bind fun w r4 => match deref r4 y with
        | some kd => .of ((mrgV u kd w).map .f) r4
        | none => .stuck
      | none => .stuck
  | .sd2 a b => tst fun r => ((ev a).1 r).bind fun x r1 => match deref r1 x with
      | some u => ((ev b).1 r1).bind fun y r2 => match deref r2 y with
        | some v => .of ((mrg2 u v).map .f) r2
        | none => .stuck
      | none => .stuck
  | .pop i => tst fun r => match mutAt r i with
      | some (.list xs) => match xs.getLast? with
        | some y => .ok (.d y) (setAt r i (.list xs.dropLast))
        | none => .stuck
      | _ => .stuck
  | .cm1 own elt t it c => tst fun r => (evI it r).bind fun xs r1 =>
      match compL (fun x r2 => (asn t (.d x) (wipeE (own.map (·.2)) r2)).bind fun _ r3 =>
          (evT c r3).bind fun ok r4 => match ok with
            | true => ((ev elt).1 r4).bind fun y r5 => (solidR r5 y).bind fun v r6 => .ok [v] r6
            | false => .ok [] r4) xs r1 with
      | .ok ys r2 => if ys.length ≤ SZ then .ok (.f (.list ys)) (backE r1 (own.map (·.2)) r2) else .stuck
      | _ => .stuck
  | .cmo own elt t i c => tst fun r => match mutAt r i with
    | some (.list xs) => if (own.map (·.2)).contains i = true then .stuck else
      match compO (fun x r2 => (asn t (.d x) (wipeE (own.map (·.2)) r2)).bind fun _ r3 =>
          (evT c r3).bind fun ok r4 => match ok with
            | true => ((ev elt).1 r4).bind fun y r5 => (solidR r5 y).bind fun v r6 => .ok [v] r6
            | false => .ok [] r4) i xs.length 0 r with
      | .ok ys r2 => if ys.length ≤ SZ then .ok (.f (.list ys)) (backE r (own.map (·.2)) r2) else .stuck
      | _ => .stuck
    | _ => .stuck
  | .cmk own elt t i c => tst fun r => (kysG i r).bind fun xs r1 =>
      match compL (fun x r2 => (asn t (.d x) (wipeE (own.map (·.2)) r2)).bind fun _ r3 =>
          (evT c r3).bind fun ok r4 => match ok with
            | true => ((ev elt).1 r4).bind fun y r5 => (solidR r5 y).bind fun v r6 => .ok [v] r6
            | false => .ok [] r4) xs r1 with
      | .ok ys r2 => if ys.length ≤ SZ then .ok (.f (.list ys)) (backE r1 (own.map (·.2)) r2) else .stuck
      | _ => .stuck
  | .cm2 own own2 elt t it c t2 it2 c2 => tst fun r => (evI it r).bind fun xs r1 =>
      match compL (fun x r2 => (asn t (.d x) (wipeE (own.map (·.2)) r2)).bind fun _ r3 =>
          (evT c r3).bind fun ok r4 => match ok with
            | true => (evI it2 r4).bind fun zs r5 =>
              compL (fun z r6 => (asn t2 (.d z) (wipeE own2 r6)).bind fun _ r7 =>
                (evT c2 r7).bind fun ok2 r8 => match ok2 with
                  | true => ((ev elt).1 r8).bind fun y r9 => (solidR r9 y).bind fun v r10 => .ok [v] r10
                  | false => .ok [] r8) zs r5
            | false => .ok [] r4) xs r1 with
      | .ok ys r2 => if ys.length ≤ SZ then .ok (.f (.list ys)) (backE r1 (own.map (·.2)) r2) else .stuck
      | _ => .stuck
def evA : IA → Env → Res (List D)
  | .nil, r => .ok [] r
  | .cons a l, r => ((ev a).1 r).bind fun x r1 => (solidR r1 x).bind fun v r2 => (evA l r2).bind fun vs r3 => .ok (v :: vs) r3
  | .lend _ _, _ => .stuck
/-- arguments of a call of the text's own def -/
def evR : IA → Env → Res (List Ar)
  | .nil, r => .ok [] r
  | .cons a l, r => ((ev a).1 r).bind fun x r1 => (solidR r1 x).bind fun v r2 => (evR l r2).bind fun vs r3 => .ok (.v v :: vs) r3
  | .lend i l, r => match mutAt r i with
    | some _ => (evR l r).bind fun vs r1 => .ok (.l i :: vs) r1
    | none => .stuck
/-- values, new objects left new -/
def evF : IA → Env → Res (List TV)
  | .nil, r => .ok [] r
  | .cons a l, r => ((ev a).1 r).bind fun x r1 => match x with
      | .f v => (evF l r1).bind fun vs r3 => .ok (.f v :: vs) r3
      | x => (solidR r1 x).bind fun v r2 => (evF l r2).bind fun vs r3 => .ok (.d v :: vs) r3
  | .lend _ _, _ => .stuck
def evO : IO → Env → Res (Option D)
  | .no, r => .ok none r
  | .yes a, r => ((ev a).1 r).bind fun x r1 => match deref r1 x with
      | some u => .ok (some u) r1
      | none => .stuck
def evT : IO → Env → Res Bool
  | .no, r => .ok true r
  | .yes a, r => (ev a).2 r
def evI : II → Env → Res (List D)
  | .val a, r => ((ev a).1 r).bind fun x r1 => (solidR r1 x).bind fun v r2 => .of (itemsOf v) r2
  | .rg1 a, r => ((ev a).1 r).bind fun x r1 => match deref r1 x with
      | some (.int j) => if small62 j then .ok (rng 0 j.toNat) r1 else .stuck
      | _ => .stuck
  | .rg2 a b, r => ((ev a).1 r).bind fun x r1 => ((ev b).1 r1).bind fun y r2 => match deref r2 x, deref r2 y with
      | some (.int i), some (.int j) => if small62 i && small62 j then .ok (rng i (j - i).toNat) r2 else .stuck
      | _, _ => .stuck
  | .enm a, r => ((ev a).1 r).bind fun x r1 => (solidR r1 x).bind fun v r2 => match listOf v with
      | some xs => .ok (enumD 0 xs) r2
      | none => .stuck
  | .zip a b, r => ((ev a).1 r).bind fun x r1 => (solidR r1 x).bind fun v r2 => ((ev b).1 r2).bind fun y r3 => (solidR r3 y).bind fun w r4 =>
      match listOf v, listOf w with
      | some xs, some ys => .ok (zipD xs ys) r4
      | _, _ => .stuck
  | .zp3 a b c, r => ((ev a).1 r).bind fun x r1 => (solidR r1 x).bind fun v r2 => ((ev b).1 r2).bind fun y r3 => (solidR r3 y).bind fun w r4 => ((ev c).1 r4).bind fun z r5 => (solidR r5 z).bind fun u r6 =>
      match listOf v, listOf w, listOf u with
      | some xs, some ys, some zs => .ok (zip3D xs ys zs) r6
      | _, _, _ => .stuck
end
abbrev evE (e : IE) (r : Env) : Res TV := (ev call e).1 r
abbrev evC (e : IE) (r : Env) : Res Bool := (ev call e).2 r

/-! ### statements -/
variable (W : Nat)
mutual
def evS : IS → Env → Res Fl
  | .asg t e, r => (evE call e r).bind fun x r1 => (asn t x r1).bind fun _ r2 => .ok .nx r2
  | .asp ts l, r => (evF call l r).bind fun xs r1 => if xs.length ≤ SZ then (asnP ts xs r1).bind fun _ r2 => .ok .nx r2 else .stuck
  | .sto i k e, r => (evE call e r).bind fun x r1 => (solidR r1 x).bind fun v r2 => match mutAt r2 i with
      | some _ => (evE call k r2).bind fun y r3 =>
        match mutAt r3 i, deref r3 y with
        | some (.list xs), some (.int j) => match ixN xs.length j with
          | some m => .ok .nx (setAt r3 i (.list (xs.set m v)))
          | none => .stuck
        | _, _ => .stuck
      | none => .stuck
  | .dst i k e, r => (evE call e r).bind fun x r1 => (solidR r1 x).bind fun v r2 => match mutAt r2 i with
      | some _ => (evE call k r2).bind fun y r3 => match mutAt r3 i, deref r3 y with
        | some u, some kd => match mrgP u kd v with
          | some d => .ok .nx (setAt r3 i d)
          | none => .stuck
        | _, _ => .stuck
      | none => .stuck
  | .tst i l e, r => (evE call e r).bind fun x r1 => (solidR r1 x).bind fun v r2 => match mutAt r2 i with
      | some _ => (evA call l r2).bind fun ds r3 => match mutAt r3 i with
        | some u => match mrgS u ds v with
          | some d => .ok .nx (setAt r3 i d)
          | none => .stuck
        | none => .stuck
      | none => .stuck
  | .app i e, r => match mutAt r i with
    | some (.list _) => (evE call e r).bind fun x r1 => (solidR r1 x).bind fun v r2 => match mutAt r2 i with
      | some (.list xs) => if xs.length < SZ then .ok .nx (setAt r2 i (.list (xs ++ [v]))) else .stuck
      | _ => .stuck
    | _ => .stuck
  | .ex e, r => (evE call e r).bind fun _ r1 => .ok .nx r1
  | .ret e, r => (evE call e r).bind fun x r1 => match x with
      | .d v => .ok (.ret false v) r1
      | .f v => .ok (.ret true v) r1
      | .s i => match r1[i]? with
        | some (.own d) => .ok (.ret true d) r1
        | _ => .stuck
  | .retN, r => .ok (.ret false .none) r
  | .ifs c a b, r => (evC call c r).bind fun t r1 => match t with
      | true => evB a r1
      | false => evB b r1
  | .whl c a, r => whileN (fun r => evC call c r) (fun r => evB a r) W r
  | .fr t it a, r => (evI call it r).bind fun xs r1 => forL (fun x r2 => (asn t (.d x) r2).bind fun _ r3 => evB a r3) xs r1
  | .fri t i a, r => match r[i]? with
    | some (.own (.dict ((.none, .int 0) :: ps))) => friK i ps (forL (fun x r2 => (asn t (.d x) r2).bind fun _ r3 => evB a r3) (ps.map pairD) (r.set i .lck))
    | _ => .stuck
  | .frk t i a, r => match r[i]? with
    | some (.val (.dict ps)) => if (ps.all fun p => isKey p.1) = true then forL (fun x r2 => (asn t (.d x) r2).bind fun _ r3 => evB a r3) (ps.map (·.1)) r else .stuck
    | _ => .stuck
  | .dpo i k, r => match mutAt r i with
    | some (.dict ((.none, .int 0) :: _)) => (evE call k r).bind fun y r1 => match mutAt r1 i, deref r1 y with
      | some u, some kd => match popT u kd with
        | some d => .ok .nx (setAt r1 i d)
        | none => .stuck
      | _, _ => .stuck
    | _ => .stuck
  | .pas, r => .ok .nx r
  | .brk, r => .ok .brk r
  | .cnt, r => .ok .cnt r
  | .rse c, r => .exc c .none r
  | .qt a, r => nx (evS a r)
  | .ifx c a b, r => (nx (evC call c r)).bind fun t r1 => match t with
      | true => evB a r1
      | false => evB b r1
  | .rai c, r => .exc c .none r
  | .exx f _ l, r => (nx (evR call l r)).bind fun as r1 => (doCall call f as r1).bind fun _ r2 => .ok .nx r2
  | .rtx f _ l, r => (nx (evR call l r)).bind fun as r1 => (doCall call f as r1).bind fun x r2 => match x with
      | .d v => .ok (.ret false v) r2
      | .f v => .ok (.ret true v) r2
      | .s _ => .stuck
  | .asx i m f _ l, r => (nx (evR call l r)).bind fun as r1 => (doCall call f as r1).bind fun x r2 => (asn1 i m x r2).bind fun _ r3 => .ok .nx r3
def evB : IB → Env → Res Fl
  | .nil, r => .ok .nx r
  | .cons a l, r => match evS a r with
    | .ok .nx r1 => evB l r1
    | o => o
end
end

/-- a def: its name, its names by slot, how many of them are parameters, its body -/
structure Df where
  name : Str
  names : List Str
  np : Nat
  body : IB

def outsOf : List Sl → Env → Option (List D)
  | [], _ => some []
  | .bor _ :: l, .bor d :: r => (outsOf l r).map (d :: ·)
  | .bor _ :: _, _ => none
  | _ :: l, _ :: r => outsOf l r
  | _ :: _, [] => none
def endCall (as : List Sl) (b : Bool) (v : D) (r : Env) : CR :=
  match outsOf as r with
  | some os => .ok b v os
  | none => .stuck
def runDef (call : Nat → List Sl → CR) (W : Nat) (df : Df) (as : List Sl) : CR :=
  if as.length = df.np then
    match evB call W df.body (as ++ List.replicate (df.names.length - df.np) .un) with
    | .ok .nx r => endCall as false .none r
    | .ok (.ret b v) r => endCall as b v r
    | .ok _ _ => .stuck
    | .exc c d _ => .exc c d
    | .stuck => .stuck
  else .stuck
def callN (P : List Df) (W : Nat) : Nat → Nat → List Sl → CR
  | 0, _, _ => .stuck
  | n + 1, f, as => match P[f]? with
    | some df => runDef (callN P W n) W df as
    | none => .stuck
end Ev


end
section
set_option linter.all false
set_option maxHeartbeats 1000000
/-! What the evaluator's states say of the heap. -/
namespace Ev
open PySem PySem.Spec PyProof.Rows L2

abbrev Fg := PySem.W.Frag
def keyD : Key → D
  | .inl i => .int i
  | .inr x => .str x
def keyTD (l : List Key) : D := .tuple (l.map keyD)

/-- a tuple of the text's own -/
def KTup (K : Fg) (a : Addr) (xs : List V) : Prop := ∃ (o : Obj) (its : Array Value) (n : Nat), K.lookup a = some o ∧ o.cls = .type "tuple" ∧ o.data = .seq its n ∧ its.size ≤ sizeLine ∧ Vals xs its.toList
/-- where a tuple stands: in F, or with the text (then it is no key) -/
def TpAt (K : Fg) (F : Hp) (a : Addr) (xs : List V) (ds : List D) : Prop := F a = some (.tup xs) ∨ (KTup K a xs ∧ isKeyT ds = false)
theorem TpAt.sqt {K : Fg} {F : Hp} {a : Addr} {xs : List V} {ds : List D} (h : TpAt K F a xs ds) : SqT K F a xs := by
  rcases h with h | ⟨h, _⟩
  · exact .inl (.inl h)
  · exact .inr h
mutual
/-- the value v, in the part F of the heap that nothing changes any more, is the datum -/
inductive Rp (K : Fg) (F : Hp) : V → D → Prop
  | non : Rp K F .non .none
  | bl (b : Bool) : Rp K F (.bl b) (.bool b)
  | int (i : Int) : Rp K F (.int i) (.int i)
  | str (x : Str) : Rp K F (.str x) (.str x)
  | lst {a : Addr} {xs : List V} {ds : List D} : F a = some (.lst xs) → RpL K F xs ds → Rp K F (.ref a) (.list ds)
  | tup {a : Addr} {xs : List V} {ds : List D} : TpAt K F a xs ds → RpL K F xs ds → Rp K F (.ref a) (.tuple ds)
  | dic {a : Addr} {kvs : List (Key × V)} {ps : List (D × D)} : Rd F a (.dK kvs) → RpK K F kvs ps → Rp K F (.ref a) (.dict ps)
  | scr {a : Addr} {xs : List V} {ds : List D} : SqL K F a xs → RpL K F xs ds → Rp K F (.ref a) (.dict [(.none, .list ds)])
  | dit {a : Addr} {kvs : List (List Key × V)} {ps : List (D × D)} : Rd F a (.dT kvs) → RpT K F kvs ps → Rp K F (.ref a) (.dict ((.none, .int 0) :: ps))
inductive RpL (K : Fg) (F : Hp) : List V → List D → Prop
  | nil : RpL K F [] []
  | cons {v : V} {vs : List V} {d : D} {ds : List D} : Rp K F v d → RpL K F vs ds → RpL K F (v :: vs) (d :: ds)
inductive RpK (K : Fg) (F : Hp) : List (Key × V) → List (D × D) → Prop
  | nil : RpK K F [] []
  | cons {k : Key} {v : V} {d : D} {kvs : List (Key × V)} {ps : List (D × D)} : Rp K F v d → RpK K F kvs ps → RpK K F ((k, v) :: kvs) ((keyD k, d) :: ps)
inductive RpT (K : Fg) (F : Hp) : List (List Key × V) → List (D × D) → Prop
  | nil : RpT K F [] []
  | cons {k : List Key} {v : V} {d : D} {kvs : List (List Key × V)} {ps : List (D × D)} : Rp K F v d → RpT K F kvs ps → RpT K F ((k, v) :: kvs) ((keyTD k, d) :: ps)
end
/-- the heap's part is within -/
def Sub (F H : Hp) : Prop := ∀ a o, F a = some o → H a = some o
theorem Sub.refl (H : Hp) : Sub H H := fun _ _ h => h
theorem Sub.trans {F G H : Hp} (a : Sub F G) (b : Sub G H) : Sub F H := fun c o h => b c o (a c o h)
theorem Sub.rd {F H : Hp} (s : Sub F H) {a : Addr} {u : HO} (r : Rd F a u) : Rd H a u := by
  rcases r with r | ⟨o, r⟩
  · exact .inl (s _ _ r)
  · exact .inr ⟨o, s _ _ r⟩
theorem Sub.sql {K : Fg} {F H : Hp} (s : Sub F H) {a : Addr} {xs : List V} (r : SqL K F a xs) : SqL K H a xs := by
  rcases r with r | r
  · exact .inl (s.rd r)
  · exact .inr r
theorem Sub.sqt {K : Fg} {F H : Hp} (s : Sub F H) {a : Addr} {xs : List V} (r : SqT K F a xs) : SqT K H a xs := by
  rcases r with r | r
  · exact .inl (s.rd r)
  · exact .inr r
theorem TpAt.mono {K : Fg} {F H : Hp} (s : Sub F H) {a : Addr} {xs : List V} {ds : List D} (h : TpAt K F a xs ds) : TpAt K H a xs ds := h.imp (s _ _) id
/-- the heap without its tables -/
def nT (H : Hp) : Hp := fun a => match H a with
  | some (.tbl _) => none
  | o => o
theorem nT_sub (H : Hp) : Sub (nT H) H := fun a o h => by
  unfold nT at h
  split at h
  · cases h
  · exact h
theorem nT_nt (H : Hp) (a : Addr) (ps : Array Value) : nT H a ≠ some (.tbl ps) := fun h => by
  unfold nT at h
  split at h
  · cases h
  · rename_i n
    exact n ps h
theorem nT_at {H : Hp} {a : Addr} {o : HO} (h : H a = some o) (n : ∀ ps, o ≠ .tbl ps) : nT H a = some o := by
  unfold nT
  split
  · rename_i ps e
    rw [h] at e
    exact absurd (Option.some.inj e) (n ps)
  · exact h
theorem nT_none {H : Hp} {a : Addr} (h : H a = none) : nT H a = none := by
  unfold nT
  rw [h]
theorem nT_ne {H : Hp} {a : Addr} {o : HO} (h : H a = some o) (n : ∀ ps, o ≠ .tbl ps) : nT H a ≠ none := by
  rw [nT_at h n]
  exact fun z => nomatch z
theorem nT_no {H : Hp} {a : Addr} {o : HO} (f : nT H a = none) (h : H a = some o) (n : ∀ ps, o ≠ .tbl ps) : False := nT_ne h n f
/-- not known yet, or a tuple -/
def NT (H : Hp) (a : Addr) : Prop := nT H a = none ∨ ∃ xs, H a = some (.tup xs)
mutual
theorem Rp.mono {K : Fg} {F H : Hp} (s : Sub F H) : ∀ {v : V} {d : D}, Rp K F v d → Rp K H v d
  | _, _, .non => .non
  | _, _, .bl b => .bl b
  | _, _, .int i => .int i
  | _, _, .str x => .str x
  | _, _, .lst h r => .lst (s _ _ h) (RpL.mono s r)
  | _, _, .tup h r => .tup (h.mono s) (RpL.mono s r)
  | _, _, .dic h r => .dic (s.rd h) (RpK.mono s r)
  | _, _, .scr h r => .scr (s.sql h) (RpL.mono s r)
  | _, _, .dit h r => .dit (s.rd h) (RpT.mono s r)
theorem RpL.mono {K : Fg} {F H : Hp} (s : Sub F H) : ∀ {v : List V} {d : List D}, RpL K F v d → RpL K H v d
  | _, _, .nil => .nil
  | _, _, .cons h r => .cons (Rp.mono s h) (RpL.mono s r)
theorem RpK.mono {K : Fg} {F H : Hp} (s : Sub F H) : ∀ {v : List (Key × V)} {d : List (D × D)}, RpK K F v d → RpK K H v d
  | _, _, .nil => .nil
  | _, _, .cons h r => .cons (Rp.mono s h) (RpK.mono s r)
theorem RpT.mono {K : Fg} {F H : Hp} (s : Sub F H) : ∀ {v : List (List Key × V)} {d : List (D × D)}, RpT K F v d → RpT K H v d
  | _, _, .nil => .nil
  | _, _, .cons h r => .cons (Rp.mono s h) (RpT.mono s r)
end
theorem RpL.length {K : Fg} {F : Hp} : ∀ {v : List V} {d : List D}, RpL K F v d → v.length = d.length
  | _, _, .nil => rfl
  | _, _, .cons _ r => by rw [List.length_cons, List.length_cons, RpL.length r]
theorem RpL.get {K : Fg} {F : Hp} : ∀ {v : List V} {d : List D}, RpL K F v d → ∀ (i : Nat) (x : D), d[i]? = some x → ∃ y, v[i]? = some y ∧ Rp K F y x
  | _, _, .nil, i, x, e => by simp at e
  | _, _, .cons h r, 0, x, e => by
    simp only [List.getElem?_cons_zero, Option.some.injEq] at e
    subst e
    exact ⟨_, by simp, h⟩
  | _, _, .cons h r, i + 1, x, e => by
    simp only [List.getElem?_cons_succ] at e
    obtain ⟨y, h1, h2⟩ := RpL.get r i x e
    exact ⟨y, by simpa using h1, h2⟩
theorem RpL.append {K : Fg} {F : Hp} : ∀ {v w : List V} {d e : List D}, RpL K F v d → RpL K F w e → RpL K F (v ++ w) (d ++ e)
  | _, _, _, _, .nil, r => r
  | _, _, _, _, .cons h r, q => .cons h (RpL.append r q)
theorem RpL.take {K : Fg} {F : Hp} : ∀ {v : List V} {d : List D} (n : Nat), RpL K F v d → RpL K F (v.take n) (d.take n)
  | _, _, 0, _ => by simp only [List.take_zero]; exact .nil
  | _, _, n + 1, .nil => .nil
  | _, _, n + 1, .cons h r => .cons h (RpL.take n r)
theorem RpL.drop {K : Fg} {F : Hp} : ∀ {v : List V} {d : List D} (n : Nat), RpL K F v d → RpL K F (v.drop n) (d.drop n)
  | _, _, 0, r => r
  | _, _, n + 1, .nil => .nil
  | _, _, n + 1, .cons h r => RpL.drop n r
theorem RpL.rep {K : Fg} {F : Hp} {v : List V} {d : List D} (h : RpL K F v d) : ∀ n, RpL K F (List.replicate n v).flatten (List.replicate n d).flatten
  | 0 => .nil
  | n + 1 => by
    rw [List.replicate_succ, List.replicate_succ, List.flatten_cons, List.flatten_cons]
    exact h.append (RpL.rep h n)
theorem RpL.set {K : Fg} {F : Hp} : ∀ {v : List V} {d : List D} (i : Nat) {x : V} {y : D}, RpL K F v d → Rp K F x y → RpL K F (v.set i x) (d.set i y)
  | _, _, _, _, _, .nil, _ => .nil
  | _, _, 0, _, _, .cons _ r, q => .cons q r
  | _, _, i + 1, _, _, .cons h r, q => .cons h (RpL.set i r q)
theorem RpL.nil_iff {K : Fg} {F : Hp} {v : List V} {d : List D} (h : RpL K F v d) : v.isEmpty = d.isEmpty := by
  cases h <;> rfl
theorem RpL.of {K : Fg} {F : Hp} {α : Type} (f : α → V) (g : α → D) (h : ∀ a, Rp K F (f a) (g a)) : ∀ l : List α, RpL K F (l.map f) (l.map g)
  | [] => .nil
  | a :: l => .cons (h a) (RpL.of f g h l)

/-- the object o is the datum, its parts in F -/
def ObR (K : Fg) (F : Hp) (o : HO) : D → Prop
  | .list ds => ∃ xs, o = .lst xs ∧ RpL K F xs ds
  | .dict ps => (∃ kvs, o = .dK kvs ∧ RpK K F kvs ps) ∨ (∃ kvs qs, ps = (.none, .int 0) :: qs ∧ o = .dT kvs ∧ RpT K F kvs qs)
  | _ => False
theorem ObR.mono {K : Fg} {F H : Hp} (s : Sub F H) {o : HO} {d : D} (h : ObR K F o d) : ObR K H o d := by
  cases d with
  | list ds => obtain ⟨xs, e, r⟩ := h; exact ⟨xs, e, r.mono s⟩
  | dict ps =>
    rcases h with ⟨kvs, e, r⟩ | ⟨kvs, qs, e0, e, r⟩
    · exact .inl ⟨kvs, e, r.mono s⟩
    · exact .inr ⟨kvs, qs, e0, e, r.mono s⟩
  | _ => exact h
theorem ObR.rp {K : Fg} {F : Hp} {o : HO} {d : D} {a : Addr} (h : ObR K F o d) (e : F a = some o) : Rp K F (.ref a) d := by
  cases d with
  | list ds =>
    obtain ⟨xs, e1, r⟩ := h
    subst e1
    exact .lst e r
  | dict ps =>
    rcases h with ⟨kvs, e1, r⟩ | ⟨kvs, qs, e0, e1, r⟩
    · subst e1; exact .dic (.inl e) r
    · subst e0 e1; exact .dit (.inl e) r
  | none => exact h.elim
  | bool b => exact h.elim
  | int i => exact h.elim
  | str s => exact h.elim
  | tuple l => exact h.elim

/-- the frame's own (or lent) object at a -/
def Own (σ : L2.St) (r : Env) (a : Addr) : Prop := ∃ (i : Nat) (d : D), (r[i]? = some (.own d) ∨ r[i]? = some (.bor d)) ∧ σ[i]? = some (some (.ref a))
/-- the def's entry: its heap, where the lent objects stand by slot; the tables of code objects -/
structure Bs where
  h : Hp
  l : Nat → Addr → Prop
  p : Nat → Addr → Prop := fun _ _ => False
  t : List (Addr × Str) := []
/-- neither a table nor a code object -/
def Pl (x : Option HO) : Prop := (∀ ps, x ≠ some (.tbl ps)) ∧ ∀ c q, x ≠ some (LamX.CodeO c q)
theorem pl_none : Pl none := ⟨fun _ h => (nomatch h), fun _ _ h => (nomatch h)⟩
theorem pl_lst {xs : List V} : Pl (some (.lst xs)) := ⟨fun _ h => (nomatch h), fun c q h => by unfold LamX.CodeO at h; cases h⟩
theorem pl_tup {xs : List V} : Pl (some (.tup xs)) := ⟨fun _ h => (nomatch h), fun c q h => by unfold LamX.CodeO at h; cases h⟩
theorem pl_dK {xs : List (Key × V)} : Pl (some (.dK xs)) := ⟨fun _ h => (nomatch h), fun c q h => by unfold LamX.CodeO at h; cases h⟩
theorem pl_dT {xs : List (List Key × V)} : Pl (some (.dT xs)) := ⟨fun _ h => (nomatch h), fun c q h => by unfold LamX.CodeO at h; cases h⟩
theorem pl_frz {o : Obj} {u : HO} : Pl (some (.frz o u)) := ⟨fun _ h => (nomatch h), fun c q h => by unfold LamX.CodeO at h; cases h⟩
theorem pl_ob {K : Fg} {F : Hp} {o : HO} {d : D} (h : ObR K F o d) : Pl (some o) := by
  cases d with
  | list ds => obtain ⟨xs, rfl, _⟩ := h; exact pl_lst
  | dict ps =>
    rcases h with ⟨kvs, rfl, _⟩ | ⟨kvs, qs, _, rfl, _⟩
    · exact pl_dK
    · exact pl_dT
  | none => exact h.elim
  | bool b => exact h.elim
  | int i => exact h.elim
  | str s => exact h.elim
  | tuple l => exact h.elim
/-- all but what is in O and the tables is kept; tables stay tables -/
structure Kp (O : Addr → Prop) (H H' : Hp) : Prop where
  keep : ∀ a o, H a = some o → ¬ O a → (∀ ps, o ≠ .tbl ps) → H' a = some o
theorem Kp.at_ {O : Addr → Prop} {H H' : Hp} (k : Kp O H H') (a : Addr) (o : HO) (h : H a = some o) (n : ¬ O a) (p : Pl (some o)) : H' a = some o := k.keep a o h n fun ps e => p.1 ps (by rw [e])
theorem Kp.of {O : Addr → Prop} {H H' : Hp} (fm : ∀ a o, H a = some o → ¬ O a → H' a = some o) (hO : ∀ a, O a → Pl (H a)) : Kp O H H' where
  keep := fun a o h n _ => fm a o h n
theorem Kp.refl {O : Addr → Prop} {H : Hp} : Kp O H H := ⟨fun _ _ h _ _ => h⟩
theorem Kp.trans {O O1 : Addr → Prop} {H H1 H2 : Hp} (a : Kp O H H1) (b : Kp O1 H1 H2) (own : ∀ c, O1 c → O c ∨ nT H c = none) : Kp O H H2 where
  keep := fun c o h n nt => b.keep c o (a.keep c o h n nt) (fun q => (own c q).elim n fun z => nT_no z h nt) nt
theorem Kp.less {O O1 : Addr → Prop} {H H1 : Hp} (a : Kp O H H1) (own : ∀ c, O c → O1 c ∨ nT H c = none) : Kp O1 H H1 where
  keep := fun c o h n nt => a.keep c o h (fun q => (own c q).elim n fun z => nT_no z h nt) nt
theorem Kp.put {O : Addr → Prop} {H : Hp} {p : Addr} {o : HO} (hp : O p) (pl : Pl (H p)) : Kp O H (upd H p o) where
  keep := fun a u h n _ => by rw [upd_ne (fun z => n (by rw [z]; exact hp))]; exact h
theorem tabs_put {T : List (Addr × Str)} {H : Hp} {p : Addr} {o : HO} (pl : Pl (H p)) (h : LamX.Tabs T H) : LamX.Tabs T (upd H p o) := fun q hq => by
  obtain ⟨ps, h1, h2, h3⟩ := h q hq
  refine ⟨ps, ?_, h2, fun pos cv hc => ?_⟩
  · rw [upd_ne (fun z => pl.1 ps (by rw [← z]; exact h1))]
    exact h1
  · obtain ⟨c, e1, e2⟩ := h3 pos cv hc
    refine ⟨c, e1, ?_⟩
    rw [upd_ne (fun z => pl.2 c _ (by rw [← z]; exact e2))]
    exact e2
theorem Kp.new {O : Addr → Prop} {H : Hp} {p : Addr} {o : HO} (hp : H p = none) : Kp O H (upd H p o) where
  keep := fun a u h _ _ => by rw [upd_ne (fun z => by rw [z, hp] at h; cases h)]; exact h
theorem pl_at {H : Hp} {p : Addr} {o : HO} (h : H p = some o) (pl : Pl (some o)) : Pl (H p) := by rw [h]; exact pl
theorem pl_ne {H : Hp} {p q : Addr} {o : HO} (n : p ≠ q) (pl : Pl (H p)) : Pl (upd H q o p) := by rw [upd_ne n]; exact pl
theorem Kp.then {O : Addr → Prop} {H H1 : Hp} {a : Addr} {o : HO} (k : Kp O H H1) (ha : O a) (pl : Pl (H1 a)) : Kp O H (upd H1 a o) := k.trans (Kp.put ha pl) fun _ q => .inl q
theorem Kp.swap {O : Addr → Prop} {H H' : Hp} {a : Addr} {o u : HO} (k : Kp O (upd H a o) H') (hH : H a = some u) (pu : Pl (some u)) (h1 : H' a = some o) (po : Pl (some o)) : Kp O H (upd H' a u) where
  keep := fun b w h n nt => by
    by_cases z : b = a
    · rw [z, hH] at h
      cases h
      rw [z, upd_same]
    · rw [upd_ne z]
      exact k.keep b w (by rw [upd_ne z]; exact h) n nt
theorem dom_put {H H1 : Hp} {a : Addr} {o : HO} (po : Pl (some o)) (d : ∀ b, nT H b ≠ none → nT H1 b ≠ none) (b : Addr) (h : nT H b ≠ none) : nT (upd H1 a o) b ≠ none := by
  by_cases z : b = a
  · rw [z]
    exact nT_ne upd_same fun ps z => po.1 ps (by rw [z])
  · unfold nT
    rw [upd_ne z]
    exact d b h
theorem dom_swap {H H1 : Hp} {a : Addr} {o u : HO} (pu : Pl (some u)) (d : ∀ b, nT (upd H a o) b ≠ none → nT H1 b ≠ none) (b : Addr) (h : nT H b ≠ none) : nT (upd H1 a u) b ≠ none := by
  by_cases z : b = a
  · rw [z]
    exact nT_ne upd_same fun ps z => pu.1 ps (by rw [z])
  · unfold nT
    rw [upd_ne z]
    refine d b ?_
    unfold nT
    rw [upd_ne z]
    exact h
/-- the heap's domain and the tables -/
structure Dm (B : Bs) (F H : Hp) : Prop where
  at_ : ∀ a, nT B.h a ≠ none → nT H a ≠ none
  tb : LamX.Tabs B.t H
  nt : ∀ a ps, F a ≠ some (.tbl ps)
theorem Dm.fz {B : Bs} {F H : Hp} {p : Addr} {o : HO} (d : Dm B F H) (pl : Pl (some o)) : Dm B (upd F p o) H := ⟨d.at_, d.tb, fun a ps h => by
  by_cases z : a = p
  · rw [z, upd_same] at h
    exact pl.1 ps h
  · rw [upd_ne z] at h
    exact d.nt a ps h⟩
theorem Dm.put {B : Bs} {F H : Hp} {p : Addr} {o : HO} (d : Dm B F H) (pl : Pl (H p)) (po : Pl (some o) := by first | exact pl_lst | exact pl_dK | exact pl_dT | exact pl_frz | exact pl_tup | exact pl_ob (by assumption) | exact pl_none) : Dm B F (upd H p o) where
  at_ := fun a q => by
    by_cases z : a = p
    · subst z
      exact nT_ne upd_same fun ps z => po.1 ps (by rw [z])
    · unfold nT
      rw [upd_ne z]
      exact d.at_ a q
  tb := tabs_put pl d.tb
  nt := d.nt
theorem Dm.go {B : Bs} {F F' H H' : Hp} (d : Dm B F H) (dm : ∀ a, nT H a ≠ none → nT H' a ≠ none) (tb : LamX.Tabs B.t H') (nt : ∀ a ps, F' a ≠ some (.tbl ps)) : Dm B F' H' := ⟨fun a q => dm a (d.at_ a q), tb, nt⟩
/-- B: the heap at the def's entry; F: the part that stays; H: the heap -/
structure StR (K : Fg) (B : Bs) (F H : Hp) (σ : L2.St) (r : Env) : Prop where
  sub : Sub F H
  dom : Dm B F H
  len : σ.length = r.length
  val : ∀ (i : Nat) (d : D), r[i]? = some (.val d) → ∃ x, σ[i]? = some (some x) ∧ Rp K F x d
  obj : ∀ (i : Nat) (d : D), (r[i]? = some (.own d) ∨ r[i]? = some (.bor d)) → ∃ a o, σ[i]? = some (some (.ref a)) ∧ H a = some o ∧ F a = none ∧ ObR K F o d
  new : ∀ (i : Nat) (d : D) (a : Addr), r[i]? = some (.own d) → σ[i]? = some (some (.ref a)) → nT B.h a = none
  lnt : ∀ (i : Nat) (d : D) (a : Addr), r[i]? = some (.bor d) → σ[i]? = some (some (.ref a)) → B.l i a
  inj : ∀ (i j : Nat) (d e : D) (a : Addr), (r[i]? = some (.own d) ∨ r[i]? = some (.bor d)) → (r[j]? = some (.own e) ∨ r[j]? = some (.bor e)) → σ[i]? = some (some (.ref a)) → σ[j]? = some (some (.ref a)) → i = j
  pin : ∀ (i : Nat), r[i]? = some .lck → ∃ a, B.p i a ∧ σ[i]? = some (some (.ref a))

theorem NT.back {H H' : Hp} {O : Addr → Prop} (fm : Kp O H H') (dm : ∀ a, nT H a ≠ none → nT H' a ≠ none) {c : Addr} (no : ¬ O c) (h : NT H' c) : NT H c := by
  cases q : nT H c with
  | none => exact .inl q
  | some o =>
    have q' := nT_sub H c o q
    have nt : ∀ ps, o ≠ .tbl ps := fun ps z => nT_nt H c ps (by rw [q, z])
    have e := fm.keep c o q' no nt
    rcases h with h | ⟨xs, h⟩
    · exact (nT_no h e nt).elim
    · rw [e] at h
      cases h
      exact .inr ⟨xs, q'⟩
theorem NT.ob {K : Fg} {F H : Hp} {o : HO} {d : D} {a : Addr} (h : NT H a) (e : H a = some o) (r : ObR K F o d) : False := by
  rcases h with h | ⟨xs, h⟩
  · exact nT_no h e fun ps z => (pl_ob r).1 ps (by rw [z])
  · rw [e] at h
    cases h
    cases d with
    | list ds => obtain ⟨_, q, _⟩ := r; cases q
    | dict ps =>
      rcases r with ⟨_, q, _⟩ | ⟨_, _, _, q, _⟩ <;> cases q
    | _ => exact r
theorem NT.no {H : Hp} {o : HO} {a : Addr} (h : NT H a) (e : H a = some o) (n : ∀ xs, o ≠ .tup xs) (pl : Pl (some o) := by first | exact pl_lst | exact pl_dK | exact pl_dT | exact pl_frz | exact pl_tup | exact pl_ob (by assumption) | exact pl_none) : False := by
  rcases h with h | ⟨xs, h⟩
  · exact nT_no h e fun ps z => pl.1 ps (by rw [z])
  · rw [e] at h
    cases h
    exact n _ rfl
/-- from one state to a later one, the slots' values the same -/
structure Post (K : Fg) (B : Bs) (σ : L2.St) (r : Env) (F H : Hp) (r' : Env) (F' H' : Hp) : Prop where
  st : StR K B F' H' σ r'
  mono : Sub F F'
  frame : Kp (Own σ r) H H'
  dom : ∀ a, nT H a ≠ none → nT H' a ≠ none
  fr : ∀ a, F' a ≠ none → F a ≠ none ∨ NT H a ∨ Own σ r a
  own : ∀ a, Own σ r' a → Own σ r a
theorem Post.refl {K : Fg} {B : Bs} {σ : L2.St} {r : Env} {F H : Hp} (s : StR K B F H σ r) : Post K B σ r F H r F H :=
  ⟨s, Sub.refl _, Kp.refl, fun _ h => h, fun _ h => .inl h, fun _ h => h⟩
theorem Post.trans {K : Fg} {B : Bs} {σ : L2.St} {r r1 r2 : Env} {F H F1 H1 F2 H2 : Hp} (a : Post K B σ r F H r1 F1 H1) (b : Post K B σ r1 F1 H1 r2 F2 H2) : Post K B σ r F H r2 F2 H2 where
  st := b.st
  mono := a.mono.trans b.mono
  frame := a.frame.trans b.frame fun c q => .inl (a.own c q)
  dom := fun c h => b.dom c (a.dom c h)
  fr := fun c h => by
    rcases b.fr c h with q | q | q
    · exact a.fr c q
    · by_cases w : Own σ r c
      · exact .inr (.inr w)
      · exact .inr (.inl (NT.back a.frame a.dom w q))
    · exact .inr (.inr (a.own c q))
  own := fun c h => a.own c (b.own c h)

/-- what an expression gives -/
def TvR (K : Fg) (H0 : Hp) (σ : L2.St) (F H : Hp) : TV → V → Prop
  | .d v, x => Rp K F x v
  | .f v, x => ∃ p o, x = .ref p ∧ H p = some o ∧ F p = none ∧ ObR K F o v ∧ nT H0 p = none
  | .s i, x => σ[i]? = some (some x)
theorem StR.pl {K : Fg} {B : Bs} {F H : Hp} {σ : L2.St} {r : Env} (s : StR K B F H σ r) : ∀ a, Own σ r a → Pl (H a) := fun a ⟨i, d, hr, e⟩ => by
  obtain ⟨b, o, e1, e2, e3, e4⟩ := s.obj i d hr
  rw [e] at e1
  cases e1
  rw [e2]
  exact pl_ob e4
theorem StR.ownH {K : Fg} {B : Bs} {F H : Hp} {σ : L2.St} {r : Env} (s : StR K B F H σ r) {a : Addr} (h : Own σ r a) : ∃ o, H a = some o ∧ F a = none := by
  obtain ⟨i, d, hr, e⟩ := h
  obtain ⟨b, o, e1, e2, e3, _⟩ := s.obj i d hr
  rw [e] at e1
  cases e1
  exact ⟨o, e2, e3⟩
theorem TvR.keep {K : Fg} {B : Bs} {H0 : Hp} {σ : L2.St} {r r1 : Env} {F H F1 H1 : Hp} {t : TV} {x : V} (h : TvR K H0 σ F H t x) (p : Post K B σ r F H r1 F1 H1) (h0 : ∀ a, Own σ r a → nT H0 a ≠ none) : TvR K H0 σ F1 H1 t x := by
  cases t with
  | d v => exact Rp.mono p.mono h
  | s i => exact h
  | f v =>
    obtain ⟨q, o, e, e1, e2, e3, e4⟩ := h
    have no : ¬ Own σ r q := fun z => h0 q z e4
    refine ⟨q, o, e, p.frame.at_ q o e1 no (pl_ob e3), ?_, e3.mono p.mono, e4⟩
    cases z : F1 q with
    | none => rfl
    | some u =>
      rcases p.fr q (by rw [z]; simp) with w | w | w
      · exact absurd e2 w
      · exact (w.ob e1 e3).elim
      · exact absurd w no
/-- read now -/
theorem deref_rp {K : Fg} {B : Bs} {H0 : Hp} {σ : L2.St} {r : Env} {F H : Hp} {t : TV} {x : V} {d : D} (s : StR K B F H σ r) (h : TvR K H0 σ F H t x) (e : deref r t = some d) : Rp K H x d := by
  cases t with
  | d v =>
    cases (show some v = some d from e)
    exact Rp.mono s.sub h
  | f v =>
    cases (show some v = some d from e)
    obtain ⟨p, o, e0, e1, _, e3, _⟩ := h
    subst e0
    exact (e3.mono s.sub).rp e1
  | s i =>
    have h : σ[i]? = some (some x) := h
    have ob : ∀ c, (r[i]? = some (.own c) ∨ r[i]? = some (.bor c)) → Rp K H x c := fun c hc => by
      obtain ⟨a, o, e1, e2, _, e4⟩ := s.obj i c hc
      rw [h] at e1
      cases e1
      exact (e4.mono s.sub).rp e2
    unfold deref at e
    simp only at e
    split at e
    · rename_i c hc
      cases e
      obtain ⟨y, e1, e2⟩ := s.val i _ hc
      rw [h] at e1
      cases e1
      exact e2.mono s.sub
    · rename_i c hc
      cases e
      exact ob _ (.inl hc)
    · rename_i c hc
      cases e
      exact ob _ (.inr hc)
    · cases e

theorem upd_sub {F H : Hp} {p : Addr} {o : HO} (s : Sub F H) (e : H p = some o) : Sub (upd F p o) H := fun a u h => by
  by_cases q : a = p
  · subst q
    rw [upd_same] at h
    cases h
    exact e
  · rw [upd_ne q] at h
    exact s a u h
theorem sub_upd {F : Hp} {p : Addr} {o : HO} (e : F p = none) : Sub F (upd F p o) := fun a u h => by
  rw [upd_ne (ne_of_none h e)]
  exact h
theorem upd_some {F : Hp} {p a : Addr} {o : HO} (h : upd F p o a ≠ none) : a = p ∨ F a ≠ none := by
  by_cases q : a = p
  · exact .inl q
  · rw [upd_ne q] at h
    exact .inr h
/-- a new object is given away: it stays as it is from now on -/
theorem freeze {K : Fg} {B : Bs} {H0 : Hp} {σ : L2.St} {r : Env} {F H : Hp} {p : Addr} {o : HO} (s : StR K B F H σ r) (e : H p = some o) (n : F p = none) (no : ¬ Own σ r p) (pl : Pl (some o)) :
    StR K B (upd F p o) H σ r where
  sub := upd_sub s.sub e
  dom := s.dom.fz pl
  len := s.len
  val := fun i d h => by
    obtain ⟨x, e1, e2⟩ := s.val i d h
    exact ⟨x, e1, e2.mono (sub_upd n)⟩
  obj := fun i d h => by
    obtain ⟨a, u, e1, e2, e3, e4⟩ := s.obj i d h
    refine ⟨a, u, e1, e2, ?_, e4.mono (sub_upd n)⟩
    rw [upd_ne (fun z => no (by subst z; exact ⟨i, d, h, e1⟩))]
    exact e3
  new := s.new
  lnt := s.lnt
  inj := s.inj
  pin := s.pin
theorem getset {α : Type} {l : List α} {i j : Nat} {x y : α} (h : (l.set i x)[j]? = some y) : (j = i ∧ y = x) ∨ (j ≠ i ∧ l[j]? = some y) := by
  rw [List.getElem?_set] at h
  by_cases e : i = j
  · subst e
    rw [if_pos rfl] at h
    split at h
    · cases h; exact .inl ⟨rfl, rfl⟩
    · cases h
  · rw [if_neg e] at h
    exact .inr ⟨fun z => e z.symm, h⟩
/-- an own slot's object is given away -/
theorem freezeS {K : Fg} {B : Bs} {σ : L2.St} {r : Env} {F H : Hp} {i : Nat} {d : D} (s : StR K B F H σ r) (h : r[i]? = some (.own d)) :
    ∃ a o, σ[i]? = some (some (.ref a)) ∧ Rp K (upd F a o) (.ref a) d ∧ Post K B σ r F H (r.set i (.val d)) (upd F a o) H := by
  obtain ⟨a, o, e1, e2, e3, e4⟩ := s.obj i d (.inl h)
  have m := sub_upd (o := o) e3
  have own : ∀ c, Own σ (r.set i (.val d)) c → Own σ r c ∧ c ≠ a := fun c hc => by
    obtain ⟨j, u, hj, ej⟩ := hc
    have hj' : j ≠ i ∧ (r[j]? = some (.own u) ∨ r[j]? = some (.bor u)) := by
      rcases hj with hj | hj
      · rcases getset hj with ⟨_, z⟩ | ⟨z, q⟩
        · cases z
        · exact ⟨z, .inl q⟩
      · rcases getset hj with ⟨_, z⟩ | ⟨z, q⟩
        · cases z
        · exact ⟨z, .inr q⟩
    refine ⟨⟨j, u, hj'.2, ej⟩, fun z => ?_⟩
    subst z
    exact hj'.1 (s.inj j i u d c hj'.2 (.inl h) ej e1)
  refine ⟨a, o, e1, (e4.mono m).rp upd_same, ?_, m, Kp.refl, fun _ q => q, fun c q => ?_, fun c q => (own c q).1⟩
  · refine ⟨upd_sub s.sub e2, s.dom.fz (pl_ob e4), by rw [List.length_set]; exact s.len, fun j u q => ?_, fun j u q => ?_, fun j u c q w => ?_, fun j u c q w => ?_, fun j k u w c q1 q2 w1 w2 => ?_, fun j q => ?_⟩
    · rcases getset q with ⟨z, z2⟩ | ⟨_, q⟩
      · subst z
        cases z2
        exact ⟨_, e1, (e4.mono m).rp upd_same⟩
      · obtain ⟨x, y1, y2⟩ := s.val j u q
        exact ⟨x, y1, y2.mono m⟩
    · have q' : j ≠ i ∧ (r[j]? = some (.own u) ∨ r[j]? = some (.bor u)) := by
        rcases q with q | q
        · rcases getset q with ⟨_, z⟩ | ⟨z, q⟩
          · cases z
          · exact ⟨z, .inl q⟩
        · rcases getset q with ⟨_, z⟩ | ⟨z, q⟩
          · cases z
          · exact ⟨z, .inr q⟩
      obtain ⟨b, v, y1, y2, y3, y4⟩ := s.obj j u q'.2
      refine ⟨b, v, y1, y2, ?_, y4.mono m⟩
      rw [upd_ne (fun z => by subst z; exact q'.1 (s.inj j i u d b q'.2 (.inl h) y1 e1))]
      exact y3
    · rcases getset q with ⟨_, z⟩ | ⟨_, q⟩
      · cases z
      · exact s.new j u c q w
    · rcases getset q with ⟨_, z⟩ | ⟨_, q⟩
      · cases z
      · exact s.lnt j u c q w
    · have f : ∀ {j : Nat} {u : D}, ((r.set i (.val d))[j]? = some (.own u) ∨ (r.set i (.val d))[j]? = some (.bor u)) → (r[j]? = some (.own u) ∨ r[j]? = some (.bor u)) := fun q => by
        rcases q with q | q
        · rcases getset q with ⟨_, z⟩ | ⟨_, q⟩
          · cases z
          · exact .inl q
        · rcases getset q with ⟨_, z⟩ | ⟨_, q⟩
          · cases z
          · exact .inr q
      exact s.inj j k u w c (f q1) (f q2) w1 w2
    · rcases getset q with ⟨_, z⟩ | ⟨_, q⟩
      · cases z
      · exact s.pin j q
  · rcases upd_some q with z | z
    · subst z
      exact .inr (.inr ⟨i, d, .inl h, e1⟩)
    · exact .inl z
/-- given away, whatever it is -/
theorem solid_rp {K : Fg} {B : Bs} {H0 : Hp} {σ : L2.St} {r r' : Env} {F H : Hp} {t : TV} {x : V} {d : D} (s : StR K B F H σ r) (h0 : ∀ a, Own σ r a → nT H0 a ≠ none) (h : TvR K H0 σ F H t x) (e : solid r t = some (d, r')) :
    ∃ F', Rp K F' x d ∧ StR K B F' H σ r' ∧ Sub F F' ∧ (∀ a, F' a ≠ none → F a ≠ none ∨ nT H0 a = none ∨ Own σ r a) ∧ (∀ a, Own σ r' a → Own σ r a) := by
  cases t with
  | d v =>
    cases (show some (v, r) = some (d, r') from e)
    exact ⟨F, h, s, Sub.refl _, fun _ q => .inl q, fun _ q => q⟩
  | f v =>
    cases (show some (v, r) = some (d, r') from e)
    obtain ⟨p, o, e0, e1, e2, e3, e4⟩ := h
    subst e0
    refine ⟨upd F p o, (e3.mono (sub_upd e2)).rp upd_same, freeze (H0 := H0) s e1 e2 (fun z => h0 p z e4) (pl_ob e3), sub_upd e2, fun a q => ?_, fun _ q => q⟩
    rcases upd_some q with z | z
    · subst z; exact .inr (.inl e4)
    · exact .inl z
  | s i =>
    have h : σ[i]? = some (some x) := h
    unfold solid at e
    simp only at e
    split at e
    · rename_i c hc
      cases e
      obtain ⟨y, e1, e2⟩ := s.val i _ hc
      rw [h] at e1
      cases e1
      exact ⟨F, e2, s, Sub.refl _, fun _ q => .inl q, fun _ q => q⟩
    · rename_i c hc
      cases e
      obtain ⟨a, o, e1, e2, p⟩ := freezeS s hc
      rw [h] at e1
      cases e1
      refine ⟨_, e2, p.st, p.mono, fun c q => ?_, p.own⟩
      rcases upd_some q with z | z
      · subst z
        exact .inr (.inr ⟨i, _, .inl hc, h⟩)
      · exact .inl z
    · cases e
end Ev

end
section
set_option linter.all false
set_option maxHeartbeats 1000000
/-! The evaluator's operators are the machine's. -/
namespace Ev
open PySem PySem.Spec PyProof.Rows L2

/-- what is read: its parts in F, itself in F or an object in H -/
def Rq (K : Fg) (F H : Hp) (x : V) (d : D) : Prop := Rp K F x d ∨ ∃ a o, x = .ref a ∧ H a = some o ∧ ObR K F o d
theorem deref_rq {K : Fg} {B : Bs} {H0 : Hp} {σ : L2.St} {r : Env} {F H : Hp} {t : TV} {x : V} {d : D} (s : StR K B F H σ r) (h : TvR K H0 σ F H t x) (e : deref r t = some d) : Rq K F H x d := by
  cases t with
  | d v =>
    cases (show some v = some d from e)
    exact .inl h
  | f v =>
    cases (show some v = some d from e)
    obtain ⟨p, o, e0, e1, _, e3, _⟩ := h
    exact .inr ⟨p, o, e0, e1, e3⟩
  | s i =>
    have h : σ[i]? = some (some x) := h
    have ob : ∀ c, (r[i]? = some (.own c) ∨ r[i]? = some (.bor c)) → Rq K F H x c := fun c hc => by
      obtain ⟨a, o, e1, e2, _, e4⟩ := s.obj i c hc
      rw [h] at e1
      cases e1
      exact .inr ⟨a, o, rfl, e2, e4⟩
    unfold deref at e
    simp only at e
    split at e
    · rename_i c hc
      cases e
      obtain ⟨y, e1, e2⟩ := s.val i _ hc
      rw [h] at e1
      cases e1
      exact .inl e2
    · rename_i c hc
      cases e
      exact ob _ (.inl hc)
    · rename_i c hc
      cases e
      exact ob _ (.inr hc)
    · cases e
section
variable {K : Fg} {F H : Hp} {x : V}
theorem Rq.rp {d : D} (s : Sub F H) (h : Rq K F H x d) : Rp K H x d := by
  rcases h with h | ⟨a, o, e, e1, e2⟩
  · exact h.mono s
  · subst e
    exact (e2.mono s).rp e1
theorem Rq.int {i : Int} (h : Rq K F H x (.int i)) : x = .int i := by
  rcases h with h | ⟨a, o, e, e1, e2⟩
  · cases h; rfl
  · exact e2.elim
theorem Rq.bl {i : Bool} (h : Rq K F H x (.bool i)) : x = .bl i := by
  rcases h with h | ⟨a, o, e, e1, e2⟩
  · cases h; rfl
  · exact e2.elim
theorem Rq.str {i : Str} (h : Rq K F H x (.str i)) : x = .str i := by
  rcases h with h | ⟨a, o, e, e1, e2⟩
  · cases h; rfl
  · exact e2.elim
theorem Rq.non (h : Rq K F H x .none) : x = .non := by
  rcases h with h | ⟨a, o, e, e1, e2⟩
  · cases h; rfl
  · exact e2.elim
theorem Rq.tup {ds : List D} (h : Rq K F H x (.tuple ds)) : ∃ a xs, x = .ref a ∧ TpAt K F a xs ds ∧ RpL K F xs ds := by
  rcases h with h | ⟨a, o, e, e1, e2⟩
  · cases h with
    | tup h1 h2 => exact ⟨_, _, rfl, h1, h2⟩
  · exact e2.elim
theorem Rq.lst {ds : List D} (s : Sub F H) (h : Rq K F H x (.list ds)) : ∃ a xs, x = .ref a ∧ H a = some (.lst xs) ∧ RpL K F xs ds := by
  rcases h with h | ⟨a, o, e, e1, e2⟩
  · cases h with
    | lst h1 h2 => exact ⟨_, _, rfl, s _ _ h1, h2⟩
  · obtain ⟨xs, e3, e4⟩ := e2
    subst e3
    exact ⟨_, _, e, e1, e4⟩
end

theorem Rq.scr {K : Fg} {F H : Hp} {x : V} {ds : List D} (h : Rq K F H x (.dict [(.none, .list ds)])) : ∃ a xs, x = .ref a ∧ SqL K F a xs ∧ RpL K F xs ds := by
  rcases h with h | ⟨a, o, e, e1, e2⟩
  · cases h with
    | scr h1 h2 => exact ⟨_, _, rfl, h1, h2⟩
    | @dic _ kvs _ h1 h2 =>
      generalize hq : ([(PyData.none, PyData.list ds)] : List (D × D)) = q at h2
      cases h2 with
      | nil => cases hq
      | @cons k v d kvs ps h3 h4 =>
        have h5 : PyData.none = keyD k := by
          injection hq with h6
          exact congrArg Prod.fst h6
        cases k <;> cases h5
  · rcases e2 with ⟨kvs, e3, h2⟩ | ⟨kvs, qs, e0, e3, h2⟩
    · generalize hq : ([(PyData.none, PyData.list ds)] : List (D × D)) = q at h2
      cases h2 with
      | nil => cases hq
      | @cons k v d kvs ps h3 h4 =>
        have h5 : PyData.none = keyD k := by
          injection hq with h6
          exact congrArg Prod.fst h6
        cases k <;> cases h5
    · injection e0 with e0 _
      injection e0 with _ e0
      exact nomatch e0

/-- an operation's result: a value that is there, or a new tuple or list -/
inductive Out (K : Fg) (F H : Hp) : TV → V → Hp → Prop
  | same {z : V} {w : D} : Rp K F z w → Out K F H (.d w) z H
  | tup {p : Addr} {xs : List V} {ds : List D} : H p = none → RpL K F xs ds → Out K F H (.d (.tuple ds)) (.ref p) (upd H p (.tup xs))
  | lst {p : Addr} {xs : List V} {ds : List D} : H p = none → RpL K F xs ds → Out K F H (.f (.list ds)) (.ref p) (upd H p (.lst xs))
  | obj {p : Addr} {o : HO} {d : D} : H p = none → ObR K F o d → Out K F H (.f d) (.ref p) (upd H p o)
theorem nT_fresh {H : Hp} {p : Addr} {o : HO} (n : H p = none) (a : Addr) (w : nT H a ≠ none) : nT (upd H p o) a ≠ none := by
  have z : a ≠ p := fun z => w (by rw [z]; exact nT_none n)
  unfold nT at w ⊢
  rw [upd_ne z]
  exact w
theorem Dm.new {B : Bs} {F H : Hp} {p : Addr} {o : HO} (d : Dm B F H) (n : H p = none) : Dm B F (upd H p o) where
  at_ := fun a q => nT_fresh n a (d.at_ a q)
  tb := tabs_put (by rw [n]; exact pl_none) d.tb
  nt := d.nt
theorem laid {K : Fg} {B : Bs} {σ : L2.St} {r : Env} {F H : Hp} {p : Addr} {o : HO} (s : StR K B F H σ r) (n : H p = none) : Post K B σ r F H r F (upd H p o) := by
  have sb : Sub H (upd H p o) := sub_upd n
  have fp : F p = none := by
    cases z : F p with
    | none => rfl
    | some u =>
      rw [s.sub _ _ z] at n
      cases n
  refine ⟨⟨fun a u q => sb a u (s.sub a u q), s.dom.new n, s.len, s.val, fun i d q => ?_, s.new, s.lnt, s.inj, s.pin⟩, Sub.refl _, Kp.new n, fun a q => ?_, fun a q => .inl q, fun _ q => q⟩
  · obtain ⟨a, u, e1, e2, e3, e4⟩ := s.obj i d q
    exact ⟨a, u, e1, sb _ _ e2, e3, e4⟩
  · exact nT_fresh n a q
theorem Out.post {K : Fg} {B : Bs} {σ : L2.St} {r : Env} {F H H' : Hp} {t : TV} {z : V} (s : StR K B F H σ r) (h : Out K F H t z H') : ∃ F', Post K B σ r F H r F' H' ∧ TvR K H σ F' H' t z := by
  cases h with
  | same h => exact ⟨F, Post.refl s, h⟩
  | @tup p xs ds n rl =>
    have l := laid (o := .tup xs) s n
    have fp : F p = none := by
      cases q : F p with
      | none => rfl
      | some u =>
        rw [s.sub _ _ q] at n
        cases n
    have no : ¬ Own σ r p := fun q => by
      obtain ⟨o, e, _⟩ := s.ownH q
      rw [n] at e
      cases e
    refine ⟨upd F p (.tup xs), ⟨freeze (H0 := H) l.st upd_same fp no pl_tup, sub_upd fp, l.frame, l.dom, fun a q => ?_, l.own⟩, .tup (.inl upd_same) (rl.mono (sub_upd fp))⟩
    rcases upd_some q with q | q
    · subst q; exact .inr (.inl (.inl (nT_none n)))
    · exact .inl q
  | @lst p xs ds n rl =>
    have fp : F p = none := by
      cases q : F p with
      | none => rfl
      | some u =>
        rw [s.sub _ _ q] at n
        cases n
    exact ⟨F, laid s n, p, _, rfl, upd_same, fp, ⟨xs, rfl, rl⟩, nT_none n⟩
  | @obj p o d n rl =>
    have fp : F p = none := by
      cases q : F p with
      | none => rfl
      | some u =>
        rw [s.sub _ _ q] at n
        cases n
    exact ⟨F, laid s n, p, _, rfl, upd_same, fp, rl, nT_none n⟩

/-! ### data compared -/
mutual
theorem Rp.dp {K : Fg} {H : Hp} : ∀ {v : V} {d : D}, Rp K H v d → d.canLay0 = true → Dp K H v d
  | _, _, .non, _ => .non
  | _, _, .bl b, _ => .bl b
  | _, _, .int i, _ => .int i
  | _, _, .str x, _ => .str x
  | _, _, .lst h r, c => .lst (SqL.of h) (RpL.dp r (by simpa [PyData.canLay0] using c))
  | _, _, .tup h r, c => .tup h.sqt (RpL.dp r (by simpa [PyData.canLay0] using c))
  | _, _, .dic h r, c => by simp [PyData.canLay0] at c
  | _, _, .dit h r, c => by simp [PyData.canLay0] at c
  | _, _, .scr h r, c => by simp [PyData.canLay0] at c
theorem RpL.dp {K : Fg} {H : Hp} : ∀ {v : List V} {d : List D}, RpL K H v d → PyData.canLayAll0 d = true → DpAll K H v d
  | _, _, .nil, _ => .nil
  | _, _, .cons h r, c => by
    have c' := c
    simp only [PyData.canLayAll0, Bool.and_eq_true] at c'
    exact .cons (Rp.dp h c'.1) (RpL.dp r c'.2)
end
theorem shaped_dp {K : Fg} {H : Hp} {v : V} {d : D} (h : Rp K H v d) (c : SeqAt.shaped d = true) : Dp K H v d := h.dp (SeqAt.canLay_of_shaped c)

theorem scal_eq {K : Fg} {F : Hp} {x y : V} {a b : D} (hx : Rp K F x a) (hy : Rp K F y b) (h : scal a b = true) : L2.scal x y = true ∧ decide (x = y) = PyData.eqv a b := by
  cases hx <;> cases hy <;> first
    | (simp [scal] at h; done)
    | (refine ⟨rfl, ?_⟩; simp [PyData.eqv]; try rfl)
    | skip
  all_goals first
    | done
    | (simp only [scal] at h; done)
    | skip
section
variable {X : Cx}
def rEqE (K : Fg) : R2 := fun x y H Q => ∃ a b, Rp K H x a ∧ Rp K H y b ∧ eqOk a b = true ∧ Q (.bl (PyData.eqv a b)) H
def rNeE (K : Fg) : R2 := fun x y H Q => ∃ a b, Rp K H x a ∧ Rp K H y b ∧ eqOk a b = true ∧ Q (.bl (!PyData.eqv a b)) H
theorem op_eqE (hu : X.A.units + 64 < cLine) : OpR X (compareOp .Eq) (rEqE X.K) := by
  intro pins s σ H x y v u Q I rx ry h
  obtain ⟨a, b, ha, hb, e, q⟩ := h
  unfold eqOk at e
  rw [Bool.or_eq_true] at e
  rcases e with e | e
  · obtain ⟨e1, e2⟩ := scal_eq ha hb e
    exact op_eq pins s σ H x y v u Q I rx ry ⟨e1, by rw [e2]; exact q⟩
  · rw [Bool.and_eq_true] at e
    exact op_eqD hu pins s σ H x y v u Q I rx ry ⟨a, b, shaped_dp ha e.1, shaped_dp hb e.2, e.1, e.2, q⟩
theorem op_neE (hu : X.A.units + 64 < cLine) : OpR X (compareOp .NotEq) (rNeE X.K) := by
  intro pins s σ H x y v u Q I rx ry h
  obtain ⟨a, b, ha, hb, e, q⟩ := h
  unfold eqOk at e
  rw [Bool.or_eq_true] at e
  rcases e with e | e
  · obtain ⟨e1, e2⟩ := scal_eq ha hb e
    exact op_ne pins s σ H x y v u Q I rx ry ⟨e1, by rw [e2]; exact q⟩
  · rw [Bool.and_eq_true] at e
    exact op_neD hu pins s σ H x y v u Q I rx ry ⟨a, b, shaped_dp ha e.1, shaped_dp hb e.2, e.1, e.2, q⟩
end
end Ev

end
section
set_option linter.all false
set_option maxHeartbeats 2000000
namespace Ev
open PySem PySem.Spec PyProof.Rows L2

def opB : Bo → Operator
  | .add => .Add
  | .sub => .Sub
  | .mul => .Mult
  | .div => .FloorDiv
  | .mod => .Mod
  | .pow => .Pow
def rBo (K : Fg) (o : Bo) : R2 := fun x y H Q => ∃ F u v t, Sub F H ∧ Rq K F H x u ∧ Rq K F H y v ∧ bop o u v = some t ∧ ∀ z H', Out K F H t z H' → Q z H'
theorem szl : SZ = sizeLine := by rw [sizeLine_eq]; rfl
theorem mulOk_c {i j : Int} (h : mulOk i j = true) : CMul i j := by
  unfold mulOk P64 at h
  rw [Bool.or_eq_true, Bool.and_eq_true, Bool.and_eq_true] at h
  simp only [decide_eq_true_eq] at h
  unfold CMul
  have e : (2 : Int) ^ 64 = 18446744073709551616 := by decide
  rw [e]
  omega
section
variable {X : Cx}
theorem or_bop (o : Bo) : OpR X (binaryOp (opB o)) (rBo X.K o) := by
  intro pins s σ H x y v u Q I rx ry h
  obtain ⟨F, a, b, t, sb, ha, hb, e, q⟩ := h
  unfold bop at e
  split at e
  · cases e
    exact op_add pins s σ H x y v u Q I rx ry ⟨_, _, ha.int, hb.int, q _ _ (.same (.int _))⟩
  · split at e
    · cases e
      rename_i w
      exact op_add_str pins s σ H x y v u Q I rx ry ⟨_, _, ha.str, hb.str, szl ▸ w, q _ _ (.same (.str _))⟩
    · cases e
  · split at e
    · cases e
      rename_i w
      obtain ⟨p, xs, rfl, h1, r1⟩ := ha.tup
      obtain ⟨p2, ys, rfl, h2, r2⟩ := hb.tup
      refine op_catA pins s σ H _ _ v u Q I rx ry ⟨p, p2, xs, ys, rfl, rfl, sb.sqt h1.sqt, sb.sqt h2.sqt, by rw [r1.length, r2.length]; exact szl ▸ w, fun z => ?_, fun _ z => ?_, fun _ _ c hc => ?_⟩
      · subst z
        cases r1
        exact q _ _ (.same (.tup h2 r2))
      · subst z
        cases r2
        rw [List.append_nil] at q
        exact q _ _ (.same (.tup h1 r1))
      · exact q _ _ (.tup hc (r1.append r2))
    · cases e
  · split at e
    · cases e
      rename_i w
      obtain ⟨p, xs, rfl, h1, r1⟩ := ha.lst sb
      obtain ⟨p2, ys, rfl, h2, r2⟩ := hb.lst sb
      refine op_cat pins s σ H _ _ v u Q I rx ry ⟨p, p2, xs, ys, rfl, rfl, h1, h2, by rw [r1.length, r2.length]; exact szl ▸ w, fun c hc => ?_⟩
      exact q _ _ (.lst hc (r1.append r2))
    · cases e
  · cases e
    exact op_sub pins s σ H x y v u Q I rx ry ⟨_, _, ha.int, hb.int, q _ _ (.same (.int _))⟩
  · split at e
    · cases e
      rename_i w
      exact op_mul pins s σ H x y v u Q I rx ry ⟨_, _, ha.int, hb.int, mulOk_c w, q _ _ (.same (.int _))⟩
    · cases e
  · split at e
    · cases e
      rename_i w
      obtain ⟨p, xs, rfl, h1, r1⟩ := ha.tup
      refine op_repT pins s σ H _ y v u Q I rx ry ⟨p, _, xs, rfl, hb.int, sb.sqt h1.sqt, fun z => ?_, w.2.2.1, w.2.1, by rw [r1.length]; exact w.1, fun c hc => ?_⟩
      · subst z
        cases r1
        exact Bool.noConfusion w.2.2.2
      · exact q _ _ (.tup hc (r1.rep _))
    · cases e
  · split at e
    · cases e
      rename_i w
      obtain ⟨p, xs, rfl, h1, r1⟩ := ha.lst sb
      refine op_rep pins s σ H _ y v u Q I rx ry ⟨p, _, xs, rfl, hb.int, h1, by omega, by omega, ?_, fun c hc => q _ _ (.lst hc (r1.rep _))⟩
      rw [r1.length, ← szl]
      exact Nat.le_trans (Nat.mul_le_mul w.1 (Int.toNat_le.mpr w.2.1)) (by decide)
    · cases e
  · split at e
    · cases e
      rename_i w
      exact op_fdiv pins s σ H x y v u Q I rx ry ⟨_, _, ha.int, hb.int, w, q _ _ (.same (.int _))⟩
    · cases e
  · split at e
    · cases e
      rename_i w
      exact op_mod pins s σ H x y v u Q I rx ry ⟨_, _, ha.int, hb.int, w, q _ _ (.same (.int _))⟩
    · cases e
  · split at e
    · cases e
      rename_i w
      refine op_pow pins s σ H x y v u Q I rx ry ⟨_, _, ha.int, hb.int, ⟨w.1, w.2.1, ?_⟩, q _ _ (.same (.int _))⟩
      have e2 : (2 : Nat) ^ 64 = 18446744073709551616 := by decide
      rw [e2]
      exact w.2.2
    · cases e
  · cases e

/-! ### comparisons -/
def opC : Co → CmpOp
  | .eq => .Eq
  | .ne => .NotEq
  | .lt => .Lt
  | .le => .LtE
  | .gt => .Gt
  | .ge => .GtE
  | .is => .Is
  | .isNot => .IsNot
  | .inn => .In
  | .notIn => .NotIn
def rCo (K : Fg) (o : Co) : R2 := fun x y H Q => ∃ F u v t, Sub F H ∧ Rq K F H x u ∧ Rq K F H y v ∧ cop o u v = some t ∧ Q (.bl t) H
theorem isOf_or {F H : Hp} {x y : V} {a b : D} {t : Bool} (sb : Sub F H) (ha : Rq X.K F H x a) (hb : Rq X.K F H y b) (e : isOf a b = some t) : (y = .non ∧ t = decide (x = .non)) ∨ ∃ c d, x = .bl c ∧ y = .bl d ∧ t = decide (c = d) := by
  unfold isOf at e
  split at e
  · cases e
    refine .inl ⟨hb.non, ?_⟩
    have h := ha.rp sb
    cases h <;> simp
  · cases e
    exact .inr ⟨_, _, ha.bl, hb.bl, Bool.beq_eq_decide_eq _ _⟩
  · cases e
theorem flat_V {K : Fg} {F : Hp} {x : V} {d : D} (h : Rp K F x d) (f : flat d = true) : flatV x = true := by
  cases h <;> first | rfl | (simp [flat] at f)
theorem flat_eqV {K : Fg} {F : Hp} {x y : V} {a b : D} (hx : Rp K F x a) (hy : Rp K F y b) (fa : flat a = true) (fb : flat b = true) : eqV x y = PyData.eqv a b := by
  cases hx <;> cases hy <;> first
    | rfl
    | (simp [flat] at fa; done)
    | (simp [flat] at fb; done)
    | (simp [eqV, PyData.eqv])
theorem flat_all {K : Fg} {F : Hp} : ∀ {xs : List V} {ds : List D}, RpL K F xs ds → ds.all flat = true → xs.all flatV = true
  | _, _, .nil, _ => rfl
  | _, _, .cons h r, f => by
    rw [List.all_cons, Bool.and_eq_true] at f ⊢
    exact ⟨flat_V h f.1, flat_all r f.2⟩
theorem flat_any {K : Fg} {F : Hp} {x : V} {a : D} (hx : Rp K F x a) (fa : flat a = true) : ∀ {xs : List V} {ds : List D}, RpL K F xs ds → ds.all flat = true → inV x xs = ds.any fun y => PyData.eqv y a
  | _, _, .nil, _ => rfl
  | _, _, .cons h r, f => by
    rw [List.all_cons, Bool.and_eq_true] at f
    show (eqV _ x || inV x _) = (PyData.eqv _ a || _)
    rw [flat_eqV h hx f.1 fa, flat_any hx fa r f.2]
theorem inOf_op {neg : Bool} {pins : List (Addr × Obj)} {s : Shared} {σ : L2.St} {F H : Hp} {x y : V} {v u : Value} {Q : VK} (hu : X.A.units + 65 < cLine) (I : Inv X pins σ H s) (rx : RelV x v) (ry : RelV y u) {a b : D} {t : Bool} (sb : Sub F H) (ha : Rq X.K F H x a)
    (hb : Rq X.K F H y b) (e : inOf a b = some t) (q : Q (.bl (if neg then !t else t)) H) : wpAny (model X.prog X.w) X.A (compareOp (if neg then .NotIn else .In) v u) (EP X pins σ Q) X.xe s := by
  have hx := ha.rp sb
  unfold inOf at e
  split at e
  · split at e
    · split at e
      · cases e
        rename_i c hc
        have ex : ∀ x' : Str, x'.cps.toList = [c] → x' = ⟨#[c]⟩ := fun x' hc => by
          obtain ⟨cs⟩ := x'
          simp only at hc
          have : cs = #[c] := by
            rw [← Array.toArray_toList (xs := cs), hc]
          rw [this]
        have h1 := ha.str
        rw [ex _ hc] at h1
        cases neg with
        | true => exact op_notIn_sign pins s σ H x y v u Q I rx ry ⟨c, _, h1, hb.str, q⟩
        | false => exact op_in_sign pins s σ H x y v u Q I rx ry ⟨c, _, h1, hb.str, q⟩
      · cases e
    · cases e
  · obtain ⟨p, xs, rfl, h1, r1⟩ := hb.lst sb
    split at e
    · rename_i w
      cases e
      rw [Bool.and_eq_true] at w
      have hin := flat_any hx w.1 (r1.mono sb) w.2
      cases neg with
      | true => exact op_notIn_seq pins s σ H x _ v u Q I rx ry ⟨p, xs, rfl, .inl (SqL.of h1), flat_V hx w.1, flat_all r1 w.2, by rw [hin]; exact q⟩
      | false => exact op_in_seq pins s σ H x _ v u Q I rx ry ⟨p, xs, rfl, .inl (SqL.of h1), flat_V hx w.1, flat_all r1 w.2, by rw [hin]; exact q⟩
    · split at e
      · rename_i w
        cases e
        rw [Bool.and_eq_true] at w
        have hy : Rp X.K H (.ref p) (.list _) := .lst h1 (r1.mono sb)
        cases neg with
        | true => exact op_notInD hu pins s σ H x _ v u Q I rx ry ⟨a, _, shaped_dp hx w.1, shaped_dp hy w.2, w.1, w.2, q⟩
        | false => exact op_inD hu pins s σ H x _ v u Q I rx ry ⟨a, _, shaped_dp hx w.1, shaped_dp hy w.2, w.1, w.2, q⟩
      · cases e
  · obtain ⟨p, xs, rfl, h1, r1⟩ := hb.tup
    split at e
    · rename_i w
      cases e
      rw [Bool.and_eq_true] at w
      have hin := flat_any hx w.1 (r1.mono sb) w.2
      cases neg with
      | true => exact op_notIn_seq pins s σ H x _ v u Q I rx ry ⟨p, xs, rfl, .inr (sb.sqt h1.sqt), flat_V hx w.1, flat_all r1 w.2, by rw [hin]; exact q⟩
      | false => exact op_in_seq pins s σ H x _ v u Q I rx ry ⟨p, xs, rfl, .inr (sb.sqt h1.sqt), flat_V hx w.1, flat_all r1 w.2, by rw [hin]; exact q⟩
    · split at e
      · rename_i w
        cases e
        rw [Bool.and_eq_true] at w
        have hy : Rp X.K H (.ref p) (.tuple _) := hb.rp sb
        have hd := shaped_dp hx w.1
        have hz := shaped_dp hy w.2
        obtain ⟨as, q1⟩ := Dp.reads I a x v hd rx
        obtain ⟨bs, q2⟩ := Dp.reads I (.tuple _) _ u hz ry
        cases neg with
        | true => exact SeqAt.notIn_tuple_reads q2 q1 (SeqAt.canLay_of_shaped w.2) (SeqAt.canLay_of_shaped w.1) (room_in_shaped w.1 hu) ⟨.bl _, H, I, rfl, q⟩
        | false => exact SeqAt.in_tuple_reads q2 q1 (SeqAt.canLay_of_shaped w.2) (SeqAt.canLay_of_shaped w.1) (room_in_shaped w.1 hu) ⟨.bl _, H, I, rfl, q⟩
      · cases e
  · cases e
theorem or_cop (hu : X.A.units + 65 < cLine) (o : Co) : OpR X (compareOp (opC o)) (rCo X.K o) := by
  intro pins s σ H x y v u Q I rx ry h
  obtain ⟨F, a, b, t, sb, ha, hb, e, q⟩ := h
  unfold cop at e
  split at e
  · split at e
    · cases e
      rename_i w
      exact op_eqE (by omega) pins s σ H x y v u Q I rx ry ⟨a, b, ha.rp sb, hb.rp sb, w, q⟩
    · cases e
  · split at e
    · cases e
      rename_i w
      exact op_neE (by omega) pins s σ H x y v u Q I rx ry ⟨a, b, ha.rp sb, hb.rp sb, w, q⟩
    · cases e
  · cases e; exact op_lt pins s σ H x y v u Q I rx ry ⟨_, _, ha.int, hb.int, q⟩
  · cases e; exact op_le pins s σ H x y v u Q I rx ry ⟨_, _, ha.int, hb.int, q⟩
  · cases e; exact op_gt pins s σ H x y v u Q I rx ry ⟨_, _, ha.int, hb.int, q⟩
  · cases e; exact op_ge pins s σ H x y v u Q I rx ry ⟨_, _, ha.int, hb.int, q⟩
  · cases e; exact op_lt_str pins s σ H x y v u Q I rx ry ⟨_, _, ha.str, hb.str, q⟩
  · cases e; exact op_le_str pins s σ H x y v u Q I rx ry ⟨_, _, ha.str, hb.str, q⟩
  · cases e; exact op_gt_str pins s σ H x y v u Q I rx ry ⟨_, _, ha.str, hb.str, q⟩
  · cases e; exact op_ge_str pins s σ H x y v u Q I rx ry ⟨_, _, ha.str, hb.str, q⟩
  · rcases isOf_or sb ha hb e with ⟨e1, e2⟩ | ⟨c, d, e1, e2, e3⟩
    · exact op_isN pins s σ H x y v u Q I rx ry ⟨e1, by rw [← e2]; exact q⟩
    · exact op_is_bl pins s σ H x y v u Q I rx ry ⟨c, d, e1, e2, by rw [← e3]; exact q⟩
  · rw [Option.map_eq_some_iff] at e
    obtain ⟨k, e, ek⟩ := e
    subst ek
    rcases isOf_or sb ha hb e with ⟨e1, e2⟩ | ⟨c, d, e1, e2, e3⟩
    · exact op_notN pins s σ H x y v u Q I rx ry ⟨e1, by rw [← e2]; exact q⟩
    · exact op_isnot_bl pins s σ H x y v u Q I rx ry ⟨c, d, e1, e2, by rw [← e3]; exact q⟩
  · exact inOf_op (neg := false) hu I rx ry sb ha hb e q
  · rw [Option.map_eq_some_iff] at e
    obtain ⟨k, e, ek⟩ := e
    subst ek
    exact inOf_op (neg := true) hu I rx ry sb ha hb e q
  · cases e
end
end Ev

end
section
set_option linter.all false
set_option maxHeartbeats 2000000
namespace Ev
open PySem PySem.Spec PyProof.Rows L2

theorem ixN_eq (n : Nat) (i : Int) : Ev.ixN n i = L2.ixN n i := rfl
theorem sIx_eq (n d : Nat) (o : Option Int) : Ev.sIx n d o = HT.sIx n d o := by cases o <;> rfl
theorem cut_eq (xs : List V) (lo hi : Option Int) : cut xs lo hi = cutV xs lo hi := by
  unfold cut cutV
  rw [sIx_eq, sIx_eq]
theorem atI_rp {K : Fg} {F : Hp} {xs : List V} {ds : List D} (r : RpL K F xs ds) {i : Int} {d : D} (e : Ev.atI ds i = some d) : ∃ y, L2.atI xs i = some y ∧ Rp K F y d := by
  unfold Ev.atI at e
  rw [Option.bind_eq_some_iff] at e
  obtain ⟨j, e1, e2⟩ := e
  obtain ⟨y, h1, h2⟩ := r.get j d e2
  refine ⟨y, ?_, h2⟩
  unfold L2.atI
  rw [Option.bind_eq_some_iff]
  exact ⟨j, by rw [r.length]; exact e1, h1⟩
theorem RpL.cut {K : Fg} {F : Hp} {xs : List V} {ds : List D} (r : RpL K F xs ds) (lo hi : Option Int) : RpL K F (cutV xs lo hi) (Ev.cut ds lo hi) := by
  rw [← cut_eq]
  unfold Ev.cut
  rw [r.length]
  exact (r.drop _).take _
def rIdx (K : Fg) : R2 := fun x y H Q => ∃ F u v t, Sub F H ∧ Rq K F H x u ∧ Rq K F H y v ∧ idx u v = some t ∧ ∀ z, Rp K F z t → Q z H
section
variable {X : Cx}
theorem ix_idx : IxR X (rIdx X.K) := by
  intro value slice pins s σ H x y v u Q I rx ry h hs
  obtain ⟨F, a, b, t, sb, ha, hb, e, q⟩ := h
  unfold idx at e
  split at e
  · obtain ⟨p, xs, rfl, h1, r1⟩ := ha.lst sb
    obtain ⟨y1, e1, e2⟩ := atI_rp r1 e
    exact ix_list value slice pins s σ H _ y v u Q I rx ry ⟨p, xs, _, y1, rfl, hb.int, SqL.of h1, e1, q _ e2⟩ hs
  · obtain ⟨p, xs, rfl, h1, r1⟩ := ha.tup
    obtain ⟨y1, e1, e2⟩ := atI_rp r1 e
    exact ix_tup value slice pins s σ H _ y v u Q I rx ry ⟨p, xs, _, y1, rfl, hb.int, sb.sqt h1.sqt, e1, q _ e2⟩ hs
  · split at e
    · rename_i w
      rw [Option.map_eq_some_iff] at e
      obtain ⟨c, e1, e2⟩ := e
      subst e2
      exact ix_str value slice pins s σ H _ y v u Q I rx ry ⟨_, _, c, ha.str, hb.int, szl ▸ w, e1, q _ (.str _)⟩ hs
    · cases e
  · cases e
def rSlc (K : Fg) : V → Option Int → Option Int → Hp → VK → Prop := fun x lo hi H Q => ∃ F u t, Sub F H ∧ Rq K F H x u ∧ slice lo hi u = some t ∧ ∀ z H', Out K F H t z H' → Q z H'
theorem sl_slc : SlR X (rSlc X.K) := by
  intro pins s σ H x v vl vu lo hi sl Q I rx hs pl pu h
  obtain ⟨F, a, t, sb, ha, e, q⟩ := h
  unfold slice at e
  split at e
  · cases e
    obtain ⟨p, xs, rfl, h1, r1⟩ := ha.lst sb
    exact sl_list pins s σ H _ v vl vu lo hi sl Q I rx hs pl pu ⟨p, xs, rfl, SqL.of h1, fun c hc => q _ _ (.lst hc (r1.cut lo hi))⟩
  · cases e
    obtain ⟨p, xs, rfl, h1, r1⟩ := ha.tup
    refine sl_tupA pins s σ H _ v vl vu lo hi sl Q I rx hs pl pu ⟨p, xs, rfl, sb.sqt h1.sqt, fun z => ?_, fun _ c hc => q _ _ (.tup hc (r1.cut lo hi))⟩
    have e2 : cutV xs lo hi = xs := by
      unfold cutV
      rw [z.1, z.2, List.drop_zero, Nat.sub_zero, List.take_length]
    have r2 := r1.cut lo hi
    rw [e2] at r2
    have e3 : cut _ lo hi = _ := List.Sublist.eq_of_length ((List.take_sublist _ _).trans (List.drop_sublist _ _)) (r2.length.symm.trans r1.length)
    rw [e3] at q
    exact q _ _ (.same (.tup h1 r1))
  · split at e
    · rename_i w
      cases e
      refine sl_str pins s σ H _ v vl vu lo hi sl Q I rx hs pl pu ⟨_, ha.str, szl ▸ w, ?_⟩
      refine q _ _ (.same ?_)
      have e3 : ∀ z : Str, cutS z lo hi = ⟨(cut z.cps.toList lo hi).toArray⟩ := fun z => by
        unfold cutS cut
        rw [sIx_eq, sIx_eq]
        rfl
      rw [e3]
      exact .str _
    · cases e
  · cases e
def rNeg : V → Hp → VK → Prop := rU fun i => .int (-i)
/-- truth -/
theorem truth_tru {K : Fg} {F H : Hp} {x : V} {d : D} {b : Bool} (sb : Sub F H) (h : Rq K F H x d) (e : truth d = some b) : TruV K x H b := by
  unfold truth at e
  split at e
  · cases e; cases h.non; rfl
  · cases e; cases h.bl; rfl
  · cases e; cases h.int; rfl
  · split at e
    · rename_i w
      cases e; cases h.str
      exact ⟨szl ▸ w, rfl⟩
    · cases e
  · cases e
    obtain ⟨p, xs, rfl, h1, r1⟩ := h.lst sb
    exact .inl ⟨xs, SqL.of h1, by rw [r1.nil_iff]⟩
  · cases e
    obtain ⟨p, xs, rfl, h1, r1⟩ := h.tup
    exact .inr (.inl ⟨xs, sb.sqt h1.sqt, by rw [r1.nil_iff]⟩)
  · cases e

/-! ### isinstance -/
def tyN : Ty → String
  | .int => "int"
  | .bool => "bool"
  | .str => "str"
  | .tuple => "tuple"
  | .list => "list"
  | .dict => "dict"
def tyD : D → String
  | .none => "NoneType"
  | .bool _ => "bool"
  | .int _ => "int"
  | .str _ => "str"
  | .tuple _ => "tuple"
  | .list _ => "list"
  | .dict _ => "dict"
theorem kit_ty (K : Fg) (d : D) (t : Ty) (h : notDict d = true) : PySem.W.kitOne K (.type (tyD d)) (.type (tyN t)) = some (isTy t d) := by
  cases d <;> first | (simp [notDict] at h; done) | (cases t <;> rfl)
theorem tyx {K : Fg} {F H : Hp} {x : V} {d : D} (sb : Sub F H) (h : Rq K F H x d) (hd : notDict d = true) : TyX K H x (.type (tyD d)) := by
  cases d with
  | none => cases h.non; exact .base .non
  | bool b => cases h.bl; exact .base (.bl _)
  | int i => cases h.int; exact .base (.int _)
  | str i => cases h.str; exact .base (.str _)
  | list ds =>
    obtain ⟨p, xs, rfl, h1, r1⟩ := h.lst sb
    exact .base (.lst h1)
  | tuple ds =>
    obtain ⟨p, xs, rfl, h1, r1⟩ := h.tup
    rcases sb.sqt h1.sqt with (h1 | ⟨o, h1⟩) | ⟨o, its, n, h1, h2, _⟩
    · exact .base (.tup h1)
    · exact .fTuple h1
    · exact .kTuple h1 h2
  | dict ps => simp [notDict] at hd
end
end Ev

end
section
set_option linter.all false
set_option maxHeartbeats 2000000
namespace Ev
open PySem PySem.Spec PyProof.Rows L2

theorem intsL_V {K : Fg} {F : Hp} : ∀ {xs : List V} {ds : List D} {ns : List Int}, RpL K F xs ds → intsL ds = some ns → xs = ns.map V.int
  | _, _, _, .nil, e => by cases e; rfl
  | _, _, _, .cons h r, e => by
    rename_i d ds'
    unfold intsL at e
    cases d <;> simp only [reduceCtorEq] at e
    rw [Option.map_eq_some_iff] at e
    obtain ⟨ms, e1, e2⟩ := e
    subst e2
    cases h
    rw [intsL_V r e1]
    rfl
theorem boolsL_V {K : Fg} {F : Hp} : ∀ {xs : List V} {ds : List D} {ns : List Bool}, RpL K F xs ds → boolsL ds = some ns → xs = ns.map V.bl
  | _, _, _, .nil, e => by cases e; rfl
  | _, _, _, .cons h r, e => by
    rename_i d ds'
    unfold boolsL at e
    cases d <;> simp only [reduceCtorEq] at e
    rw [Option.map_eq_some_iff] at e
    obtain ⟨ms, e1, e2⟩ := e
    subst e2
    cases h
    rw [boolsL_V r e1]
    rfl
theorem maxL_spec : ∀ (r : List Int) (x : Int), (maxL x r = x ∨ maxL x r ∈ r) ∧ x ≤ maxL x r ∧ ∀ y ∈ r, y ≤ maxL x r
  | [], x => ⟨.inl rfl, Int.le_refl _, fun _ h => nomatch h⟩
  | y :: r, x => by
    unfold maxL
    have ih := maxL_spec r (if x < y then y else x)
    obtain ⟨h1, h2, h3⟩ := ih
    refine ⟨?_, ?_, ?_⟩
    · rcases h1 with h1 | h1
      · by_cases q : x < y
        · rw [if_pos q] at h1 ⊢; right; rw [h1]; exact List.mem_cons_self
        · rw [if_neg q] at h1 ⊢; left; exact h1
      · right; exact List.mem_cons_of_mem _ h1
    · by_cases q : x < y
      · rw [if_pos q] at h2 ⊢; omega
      · rw [if_neg q] at h2 ⊢; exact h2
    · intro z hz
      rcases List.mem_cons.mp hz with hz | hz
      · subst hz
        by_cases q : x < z
        · rw [if_pos q] at h2 ⊢; exact h2
        · rw [if_neg q] at h2 ⊢; omega
      · exact h3 z hz
theorem minL_spec : ∀ (r : List Int) (x : Int), (minL x r = x ∨ minL x r ∈ r) ∧ minL x r ≤ x ∧ ∀ y ∈ r, minL x r ≤ y
  | [], x => ⟨.inl rfl, Int.le_refl _, fun _ h => nomatch h⟩
  | y :: r, x => by
    unfold minL
    have ih := minL_spec r (if y < x then y else x)
    obtain ⟨h1, h2, h3⟩ := ih
    refine ⟨?_, ?_, ?_⟩
    · rcases h1 with h1 | h1
      · by_cases q : y < x
        · rw [if_pos q] at h1 ⊢; right; rw [h1]; exact List.mem_cons_self
        · rw [if_neg q] at h1 ⊢; left; exact h1
      · right; exact List.mem_cons_of_mem _ h1
    · by_cases q : y < x
      · rw [if_pos q] at h2 ⊢; omega
      · rw [if_neg q] at h2 ⊢; exact h2
    · intro z hz
      rcases List.mem_cons.mp hz with hz | hz
      · subst hz
        by_cases q : z < x
        · rw [if_pos q] at h2 ⊢; exact h2
        · rw [if_neg q] at h2 ⊢; omega
      · exact h3 z hz
def b1V : B1 → Value
  | .abs => .builtin "abs"
  | .int => .type "int"
  | .len => .builtin "len"
  | .list => .type "list"
  | .tuple => .type "tuple"
  | .sum => .builtin "sum"
  | .all => .builtin "all"
  | .any => .builtin "any"
  | .max => .builtin "max"
  | .min => .builtin "min"
  | .sorted => .builtin "sorted"
  | .str => .type "str"
  | .repr => .builtin "repr"
def rB1 (K : Fg) (b : B1) : List V → Hp → VK → Prop := fun xs H Q => ∃ F x u t, xs = [x] ∧ Sub F H ∧ Rq K F H x u ∧ b1 b u = some t ∧ ∀ z H', Out K F H t z H' → Q z H'
def b2V : B2 → Value
  | .max => .builtin "max"
  | .min => .builtin "min"
def rB2 (K : Fg) (b : B2) : List V → Hp → VK → Prop := fun xs H Q => ∃ F x y u v t, xs = [x, y] ∧ Sub F H ∧ Rq K F H x u ∧ Rq K F H y v ∧ b2 b u v = some t ∧ ∀ z, Rp K F z t → Q z H
section
variable {X : Cx}
theorem call_repr_bool : CallR X (.builtin "repr") (fun xs H Q => ∃ b : Bool, xs = [.bl b] ∧ Q (.str (if b then "True" else "False")) H) := by
  intro pins s σ H xs us Q I r h
  obtain ⟨b, rfl, q⟩ := h
  obtain ⟨u, rfl, rfl⟩ := vals1 r
  exact PySem.P.repr_of_bool ⟨.str _, H, I.tok _, ⟨_, rfl⟩, q⟩
theorem cr_b1 (hc : X.calm = true) (b : B1) : CallR X (b1V b) (rB1 X.K b) := by
  intro pins s σ H xs us Q I r h
  obtain ⟨F, x, u, t, rfl, sb, ha, e, q⟩ := h
  unfold b1 at e
  split at e
  · cases e
    exact call_abs pins s σ H _ us Q I r ⟨_, by rw [ha.int], q _ _ (.same (.int _))⟩
  · cases e
    exact call_int1 pins s σ H _ us Q I r (.inl ⟨_, by rw [ha.int], q _ _ (.same (.int _))⟩)
  · split at e
    · cases e
      rename_i w
      exact call_len pins s σ H _ us Q I r ⟨x, _, rfl, by rw [ha.str]; exact ⟨szl ▸ w, rfl⟩, q _ _ (.same (.int _))⟩
    · cases e
  · cases e
    obtain ⟨p, ys, rfl, h1, r1⟩ := ha.lst sb
    exact call_len pins s σ H _ us Q I r ⟨_, _, rfl, .inl ⟨ys, SqL.of h1, rfl⟩, by rw [r1.length]; exact q _ _ (.same (.int _))⟩
  · cases e
    obtain ⟨p, ys, rfl, h1, r1⟩ := ha.tup
    exact call_len pins s σ H _ us Q I r ⟨_, _, rfl, .inr ⟨ys, sb.sqt h1.sqt, rfl⟩, by rw [r1.length]; exact q _ _ (.same (.int _))⟩
  · cases e
    obtain ⟨p, ys, rfl, h1, r1⟩ := ha.lst sb
    exact call_list_of pins s σ H _ us Q I r ⟨p, ys, rfl, .inl (SqL.of h1), fun c hc => q _ _ (.lst hc r1)⟩
  · cases e
    obtain ⟨p, ys, rfl, h1, r1⟩ := ha.tup
    exact call_list_of pins s σ H _ us Q I r ⟨p, ys, rfl, .inr (sb.sqt h1.sqt), fun c hc => q _ _ (.lst hc r1)⟩
  · cases e
    obtain ⟨p, ys, rfl, h1, r1⟩ := ha.scr
    exact call_list_of pins s σ H _ us Q I r ⟨p, ys, rfl, .inl (sb.sql h1), fun c hc => q _ _ (.lst hc r1)⟩
  · cases e
    obtain ⟨p, ys, rfl, h1, r1⟩ := ha.lst sb
    exact call_tuple_of pins s σ H _ us Q I r ⟨p, ys, rfl, .inl ⟨SqL.of h1, fun c hc => q _ _ (.tup hc r1)⟩⟩
  · cases e
    obtain ⟨p, ys, rfl, h1, r1⟩ := ha.tup
    exact call_tuple_of pins s σ H _ us Q I r ⟨p, ys, rfl, .inr ⟨sb.sqt h1.sqt, q _ _ (.same (.tup h1 r1))⟩⟩
  · obtain ⟨p, ys, rfl, h1, r1⟩ := ha.lst sb
    rw [Option.map_eq_some_iff] at e
    obtain ⟨ns, e1, e2⟩ := e
    subst e2
    have ey := intsL_V r1 e1
    subst ey
    exact cr_sum hc pins s σ H _ us Q I r ⟨p, ns, rfl, SqL.of h1, q _ _ (.same (.int _))⟩
  · obtain ⟨p, ys, rfl, h1, r1⟩ := ha.lst sb
    rw [Option.map_eq_some_iff] at e
    obtain ⟨ns, e1, e2⟩ := e
    subst e2
    have ey := boolsL_V r1 e1
    subst ey
    exact cr_all hc pins s σ H _ us Q I r ⟨p, ns, rfl, SqL.of h1, q _ _ (.same (.bl _))⟩
  · obtain ⟨p, ys, rfl, h1, r1⟩ := ha.lst sb
    rw [Option.map_eq_some_iff] at e
    obtain ⟨ns, e1, e2⟩ := e
    subst e2
    have ey := boolsL_V r1 e1
    subst ey
    exact cr_any hc pins s σ H _ us Q I r ⟨p, ns, rfl, SqL.of h1, q _ _ (.same (.bl _))⟩
  · obtain ⟨p, ys, rfl, h1, r1⟩ := ha.lst sb
    split at e
    · rename_i x r' e1
      cases e
      have ey := intsL_V r1 e1
      subst ey
      refine cr_max hc pins s σ H _ us Q I r ⟨p, _, rfl, SqL.of h1, by simp, fun m hm hall => ?_⟩
      obtain ⟨k1, k2, k3⟩ := maxL_spec r' x
      have em : m = maxL x r' := by
        apply Int.le_antisymm
        · rcases List.mem_cons.mp hm with z | z
          · rw [z]; exact k2
          · exact k3 m z
        · rcases k1 with z | z
          · rw [z]; exact hall x List.mem_cons_self
          · exact hall _ (List.mem_cons_of_mem _ z)
      rw [em]
      exact q _ _ (.same (.int _))
    · cases e
  · obtain ⟨p, ys, rfl, h1, r1⟩ := ha.lst sb
    split at e
    · rename_i x r' e1
      cases e
      have ey := intsL_V r1 e1
      subst ey
      refine cr_min hc pins s σ H _ us Q I r ⟨p, _, rfl, SqL.of h1, by simp, fun m hm hall => ?_⟩
      obtain ⟨k1, k2, k3⟩ := minL_spec r' x
      have em : m = minL x r' := by
        apply Int.le_antisymm
        · rcases k1 with z | z
          · rw [z]; exact hall x List.mem_cons_self
          · exact hall _ (List.mem_cons_of_mem _ z)
        · rcases List.mem_cons.mp hm with z | z
          · rw [z]; exact k2
          · exact k3 m z
      rw [em]
      exact q _ _ (.same (.int _))
    · cases e
  · split at e
    · cases e
      rename_i w
      exact call_str_int pins s σ H _ us Q I r ⟨_, by rw [ha.int], w, q _ _ (.same (.str _))⟩
    · cases e
  · cases e
    exact call_repr_bool pins s σ H _ us Q I r ⟨_, by rw [ha.bl], q _ _ (.same (.str _))⟩
  · split at e
    · cases e
      rename_i w
      exact SkE.call_repr_int pins s σ H _ us Q I r ⟨_, by rw [ha.int], w, q _ _ (.same (.str _))⟩
    · cases e
  · cases e
theorem cr_b2 (hc : X.calm = true) (b : B2) : CallR X (b2V b) (rB2 X.K b) := by
  intro pins s σ H xs us Q I r h
  obtain ⟨F, x, y, u, v, t, rfl, sb, ha, hb, e, q⟩ := h
  unfold b2 at e
  split at e
  · cases e
    exact call_max2 hc pins s σ H _ us Q I r ⟨_, _, by rw [ha.int, hb.int], q _ (.int _)⟩
  · cases e
    exact call_min2 hc pins s σ H _ us Q I r ⟨_, _, by rw [ha.int, hb.int], q _ (.int _)⟩
  · cases e
end
end Ev

end
section
set_option linter.all false
set_option maxHeartbeats 2000000
/-! enumerate and zip of lists and tuples in any mix. -/
namespace Ev
open PySem PySem.Spec PyProof.Rows L2
def SqX (K : Fg) (b : Bool) (H : Hp) (a : Addr) (xs : List V) : Prop := match b with | true => SqL K H a xs | false => SqT K H a xs
def IsX (b : Bool) (h : Heap) (a : Addr) (its : Array Value) : Prop := match b with | true => h.IsList a its | false => h.IsTuple a its
def ItrX (b : Bool) (h : Heap) (it a : Addr) (i : Nat) : Prop := match b with | true => h.IsListIter it a i | false => h.IsTupleIter it a i
def objX (b : Bool) (a : Addr) : Obj := match b with | true => { cls := .type "list_iterator", data := .fields #[.ref a, .int 0 0] } | false => { cls := .type "tuple_iterator", data := .fields #[.ref a, .int 0 0] }
theorem begX (b : Bool) (a : Addr) (its : Array Value) : Begins (.ref a) (objX b a) fun h => IsX b h a its := by
  cases b with
  | true => exact begins_list a its
  | false => exact begins_tuple a its
theorem drawX {prog : Program} {w : World} {A : Around} (b : Bool) (hh : A.handled = none) (it a : Addr) (hne : a ≠ it) (its : Array Value) :
    Draws prog w A it [it, a] its.size (fun i v => its[i]? = some v) (fun i h => ItrX b h it a i ∧ IsX b h a its) := by
  cases b with
  | true => exact Draws.list hh it a hne its
  | false => exact Draws.tuple hh it a hne its
theorem itrX_new {b : Bool} {h : Heap} {it a : Addr} (e : h.get? it = some (objX b a)) : ItrX b h it a 0 := by
  cases b with
  | true => exact ⟨_, e, rfl, rfl⟩
  | false => exact ⟨_, e, rfl, rfl⟩
theorem itrX_at {b : Bool} {h h' : Heap} {it a : Addr} {i : Nat} (x : ItrX b h it a i) (k : ∀ o, h.get? it = some o → h'.get? it = some o) : ItrX b h' it a i := by
  cases b with
  | true => exact Heap.IsListIter.at x k
  | false => exact Heap.IsTupleIter.at x k
theorem itrX_obj {b : Bool} {h : Heap} {it a : Addr} {i : Nat} (x : ItrX b h it a i) : ∃ o, h.get? it = some o ∧ ∀ v, o.data ≠ .cell v := by
  cases b with
  | true => obtain ⟨o, e, _, d⟩ := x; exact ⟨o, e, fun v q => by rw [d] at q; cases q⟩
  | false => obtain ⟨o, e, _, d⟩ := x; exact ⟨o, e, fun v q => by rw [d] at q; cases q⟩
section
variable {X : Cx} {pins : List (Addr × Obj)} {σ : L2.St} {H : Hp} {s : Shared}
theorem seqX {b : Bool} {a : Addr} {xs : List V} (I : Inv X pins σ H s) (h : SqX X.K b H a xs) : ∃ its : List Value, Vals xs its ∧ IsX b s.heap a its.toArray ∧ a < s.heap.objs.size ∧ ∀ ys, SqX X.K b H a ys → ys = xs := by
  cases b with
  | true =>
    obtain ⟨its, r, p, _⟩ := I.list h
    exact ⟨its, r, p.isList, p.lt, fun ys q => I.list_inj q h⟩
  | false =>
    obtain ⟨its, r, p, _⟩ := I.tuple h
    obtain ⟨o, e, _⟩ := id p
    exact ⟨its, r, p, Heap.lt_size e, fun ys q => I.tuple_inj q h⟩
end
/-- pairs of f i and the i-th of xs .. -/
def ItP (G : Hp → Prop) (n : Nat) (Y : Nat → V → V → Prop) : It :=
  ⟨fun i H => G H ∧ i < n, fun i H v H' => ∃ T x y, v = .ref T ∧ H T = none ∧ H' = upd H T (.tup [x, y]) ∧ Y i x y, fun i H => G H ∧ i = n⟩
theorem turn_enumX {P : Program} {w : World} {K : Fg} {elts : List Expr} {kk : Nat} {tpos : Pos} (b : Bool) {a e it : Addr} {xs : List V} (h1 : e ≠ it) (h2 : a ≠ it) (h3 : e ≠ a) :
    Turn P w K (.Tuple elts kk tpos) (ItP (fun H => SqX K b H a xs) xs.length fun i x y => x = .int (i : Nat) ∧ xs[i]? = some y) [e, it] e
      (fun i h => (∃ old, IsEnum h e it (i : Int) old) ∧ ItrX b h it a i) where
  mem := by simp
  obj := fun i h st c hc => by
    obtain ⟨⟨old, he⟩, hi⟩ := st
    have e' : c = e ∨ c = it := by simpa using hc
    rcases e' with q | q
    · rw [q]; exact ⟨_, he, fun v q => nomatch q⟩
    · rw [q]; exact itrX_obj hi
  keep := fun i h h' st k => by
    obtain ⟨⟨old, he⟩, hi⟩ := st
    exact ⟨⟨old, k e (by simp) _ he⟩, itrX_at hi fun o q => k it (by simp) o q⟩
  item := by
    intro X hP hw hK hc i pins s σ H E I hf st hg
    subst hP hw hK
    obtain ⟨⟨old, he⟩, hi⟩ := st
    obtain ⟨hq, hlt⟩ := hg
    obtain ⟨its, rv, hl, hal, inj⟩ := seqX I hq
    have hh : X.A.in1.handled = none := I.ok.hd hc
    have W := WalksT.enumFrom (prog := X.prog) (w := X.w) (A := X.A) 0 (drawX b hh it a h2 its.toArray) e h1 (by simp [h1, h3]) (by simp)
    have hel : e < s.heap.objs.size := Heap.lt_size he
    have hil : it < s.heap.objs.size := by obtain ⟨o, q, _⟩ := itrX_obj hi; exact Heap.lt_size q
    have hn : i < its.toArray.size := by rw [List.size_toArray, ← rv.length]; exact hlt
    have z : (0 : Int) + (i : Int) = (i : Int) := by omega
    refine W.item i s _ _ hn ⟨⟨old, by rw [z]; exact he⟩, hi, hl⟩ fun T vals h' tk hP hT hTup hm hk => ?_
    obtain ⟨t, u, hu, rfl⟩ := hP
    refine ⟨_, rfl, W.go elts kk tpos i T { s with heap := h', toks := tk } _ _ hm fun h'' st'' hk2 => ?_⟩
    obtain ⟨_, _, hTe, hTi⟩ := hm
    have hTup2 : h''.IsTuple T #[.int (0 + (i : Int)) t, u] := hTup.at fun o q => hk2 T o (by simp [hTe, hTi]) q
    obtain ⟨x, hx⟩ : ∃ x, xs[i]? = some x := ⟨xs[i], by simp [hlt]⟩
    obtain ⟨u', hu', ru⟩ := rv.get hx
    have eu : u' = u := by
      have hu2 : its[i]? = some u := by simpa using hu
      rw [hu'] at hu2
      exact Option.some.inj hu2
    subst eu
    have new : ObjOk X.prog X.w (upd H T (.tup [.int (i : Nat), x])) h'' T (.tup [.int (i : Nat), x]) :=
      ⟨by show 2 ≤ sizeLine; decide, [.int (0 + (i : Int)) t, u'], .cons ⟨t, by rw [z]⟩ (.cons ru .nil), hTup2⟩
    have I1 : Inv X pins σ (upd H T (.tup [.int (i : Nat), x])) { s with heap := h'', toks := tk } :=
      I.turnedNew (ch := [e, it]) (fun c ob hb q => hk2 c ob hb (hk c ob hb q)) hf hT new
    refine ⟨.ref T, _, I1, rfl, ⟨T, _, x, rfl, I.hok.fresh hT, rfl, rfl, hx⟩, ⟨?_, ?_⟩, fun c hcm => ?_⟩
    · obtain ⟨⟨o2, q⟩, _⟩ := st''
      exact ⟨o2, by have zz : (0 : Int) + ((i + 1 : Nat) : Int) = ((i + 1 : Nat) : Int) := by omega
                    rw [zz] at q
                    exact q⟩
    · exact st''.2.1
    · have hlt2 : c < s.heap.objs.size := by
        have e' : c = e ∨ c = it := by simpa using hcm
        rcases e' with q | q
        · rw [q]; exact hel
        · rw [q]; exact hil
      rw [upd_ne (Nat.ne_of_lt (Nat.lt_of_lt_of_le hlt2 hT))]
      exact (hf c hcm).1
  done := by
    intro X hP hw hK hc i pins s σ H E I hf st hg
    subst hP hw hK
    obtain ⟨⟨old, he⟩, hi⟩ := st
    obtain ⟨hq, hlt⟩ := hg
    obtain ⟨its, rv, hl, hal, inj⟩ := seqX I hq
    have hh : X.A.in1.handled = none := I.ok.hd hc
    have W := WalksT.enumFrom (prog := X.prog) (w := X.w) (A := X.A) 0 (drawX b hh it a h2 its.toArray) e h1 (by simp [h1, h3]) (by simp)
    have z : (0 : Int) + (i : Int) = (i : Int) := by omega
    have hn : its.toArray.size = i := by rw [List.size_toArray, ← rv.length]; exact hlt.symm
    refine W.done s _ _ ?_ fun h' tk hk => ⟨rfl, ?_⟩
    · rw [hn]
      exact ⟨⟨old, by rw [z]; exact he⟩, hi, hl⟩
    · exact I.turnedL (ch := [e, it]) (t' := tk) (fun c o hb q => hk c o hb q) hf
  self := fun A i s Q E st h => let ⟨⟨_, he⟩, _⟩ := st; wpAny_pyIter_enum he h
end Ev

end
section
set_option linter.all false
set_option maxHeartbeats 2000000
set_option maxRecDepth 100000
namespace Ev
open PySem PySem.Spec PyProof.Rows L2
theorem meets_enum1 {v : Value} {o : Obj} {H : Heap → Prop} (B : Begins v o H) :
    Meets (Builtin.«enumerate.__new__» ⟨[.type "enumerate", v], []⟩) (fun _ R s => H s.heap ∧
      R (.ok (.ret (.ref (s.heap.push o).objs.size))) { s with heap := (s.heap.push o).push { cls := .type "enumerate", data := .fields #[.none, .bool false, .ref s.heap.objs.size, rawInt 0, .none, .none] } }) :=
  .of_wp fun prog w A R s h => by
    obtain ⟨hp, g, d, tk, os⟩ := s; obtain ⟨h1, h⟩ := h
    have hsub := sub_enumerate
    have q1 : ∀ {A' : Around} {E : Value → Shared → Prop} {Q : Value → Shared → Prop}, Q (.ref hp.objs.size) ⟨hp.push o, g, d, tk, os⟩ → wpAny (model prog w) A' (pyIter v) Q E ⟨hp, g, d, tk, os⟩ :=
      fun q => B.iter prog w _ _ ⟨hp, g, d, tk, os⟩ _ h1 q
    wp_walk using q1
    refine wpAny_stack_any fun st => wpAny_pure ?_
    split
    · rename_i c _ _ _ _ _
      cases (c == Value.type "enumerate")
      · wp_walk using q1
        exact ⟨_, rfl, h⟩
      · wp_walk using q1
        exact ⟨_, rfl, h⟩
    · wp_walk using q1
      exact ⟨_, rfl, h⟩
theorem call_enum1 {prog : Program} {w : World} {A : Around} {E : Value → Shared → Prop} {s : Shared} {v : Value} {o : Obj} {H : Heap → Prop} {Q : Value → Shared → Prop} (B : Begins v o H) (h1 : H s.heap)
    (h : ∀ h', IsEnum h' (s.heap.objs.size + 1) s.heap.objs.size 0 .none → h'.get? s.heap.objs.size = some o → h'.objs.size = s.heap.objs.size + 2 →
      (∀ b o, s.heap.get? b = some o → h'.get? b = some o) → Q (.ref (s.heap.objs.size + 1)) { s with heap := h' }) :
    wpAny (model prog w) A (call (.type "enumerate") [v]) Q E s := by
  refine callType_new F.called_enumerate (by decide) (F.typeCall_enumerate_1 _) (F.newCall_enumerate_1 _) (fun obj => F.args_object_init_2 obj _) F.entry_enumerate_new
    (meets_enum1 B) ⟨h1, ?_⟩
  have hz : (s.heap.push o).objs.size = s.heap.objs.size + 1 := Heap.size_push ..
  show _ ∧ _
  rw [hz]
  have he : IsEnum ((s.heap.push o).push
      { cls := .type "enumerate", data := .fields #[.none, .bool false, .ref s.heap.objs.size, rawInt 0, .none, .none] }) (s.heap.objs.size + 1) s.heap.objs.size 0 .none := by
    have := Heap.get?_push_size (s.heap.push o)
      (o := { cls := .type "enumerate", data := .fields #[.none, .bool false, .ref s.heap.objs.size, rawInt 0, .none, .none] }) rfl
    rw [hz] at this; exact this
  refine ⟨⟨_, he, rfl⟩, h _ he (Heap.get?_push_of_some _ (Heap.get?_push_size _ B.free)) (by rw [Heap.size_push, hz]) fun b o x => Heap.get?_push_of_some _ (Heap.get?_push_of_some _ x)⟩
def iEnumX (K : Fg) (ta : TA) : TI := fun σ H R => ta σ H fun vs H1 => ∃ b a xs, vs = [.ref a] ∧ SqX K b H1 a xs ∧ R (ItP (fun H => SqX K b H a xs) xs.length fun i x y => x = .int (i : Nat) ∧ xs[i]? = some y) H1
theorem pi_enumX {X : Cx} {e : Expr} {ta : TA} {p pos tpos : Pos} {elts : List Expr} {kk : Nat} (hg : Gl X "enumerate") (hm : X.mg "enumerate" = none) (ha : PA X [e] ta) (hs : starEach [e] X.env = [(false, eval e X.env)]) :
    PI X (.Tuple elts kk tpos) (.Call (.Name "enumerate" p) [e] [] pos) (iEnumX X.K ta) := by
  refine ⟨fun pins s σ H R I h => ?_⟩
  refine Call_ (ld_blt I hg hm boot_enumerate (PyProof.Rows.callWith_type1 (thn (ha.run pos pins s σ H _ I h) fun us s1 ⟨vs, H1, I1, r1, q1⟩ => ?_) hs rfl))
  obtain ⟨b, a, xs, ex, hq, q⟩ := q1
  subst ex
  cases r1 with
  | cons r rr =>
    cases rr
    cases r
    obtain ⟨its, rv, hl, hal, inj⟩ := seqX I1 hq
    refine call_enum1 (begX b a its.toArray) hl fun h' he hit hsz hk => wpAny_pyIter_enum he ?_
    have I2 : Inv X pins σ H1 { s1 with heap := h' } := I1.kept (t' := s1.toks) hk
    refine ⟨s1.heap.objs.size + 1, [s1.heap.objs.size + 1, s1.heap.objs.size], _, _, H1, rfl, I2, turn_enumX b (Nat.succ_ne_self _) (Nat.ne_of_lt hal) (Nat.ne_of_gt (Nat.lt_succ_of_lt hal)), ⟨⟨.none, he⟩, itrX_new hit⟩, fun c hb => ?_, q⟩
    have e' : c = s1.heap.objs.size + 1 ∨ c = s1.heap.objs.size := by simpa using hb
    have hle : s1.heap.objs.size ≤ c := by
      rcases e' with z | z
      · rw [z]; exact Nat.le_add_right _ _
      · rw [z]; exact Nat.le_refl _
    exact I1.fpOk hle (I1.hok.fresh hle)

structure Apart5 (z TI TO i1 i2 a c : Addr) : Prop where
  TIz : TI ≠ z
  TOz : TO ≠ z
  TITO : TI ≠ TO
  TIi1 : TI ≠ i1
  TIi2 : TI ≠ i2
  i1z : i1 ≠ z
  i2z : i2 ≠ z
  i1TO : i1 ≠ TO
  i2TO : i2 ≠ TO
  i12 : i1 ≠ i2
  az : a ≠ z
  aTO : a ≠ TO
  ai1 : a ≠ i1
  ai2 : a ≠ i2
  cz : c ≠ z
  cTO : c ≠ TO
  ci1 : c ≠ i1
  ci2 : c ≠ i2
theorem Apart5.sep {z TI TO i1 i2 a c : Addr} (D : Apart5 z TI TO i1 i2 a c) : ZipSep2 z TI TO i1 i2 [i1, a] [i2, c] where
  TIz := D.TIz
  TOz := D.TOz
  TITO := D.TITO
  TIi1 := D.TIi1
  mem1 := by simp
  zf1 := by simp [D.i1z.symm, D.az.symm]
  Tf1 := by simp [D.i1TO.symm, D.aTO.symm]
  TIi2 := D.TIi2
  mem2 := by simp
  zf2 := by simp [D.i2z.symm, D.cz.symm]
  Tf2 := by simp [D.i2TO.symm, D.cTO.symm]
  sep1_2 := by simp [D.i12, D.ci1.symm]
  sep2_1 := by simp [D.i12.symm, D.ai2.symm]
theorem turn_zipX {P : Program} {w : World} {K : Fg} {elts : List Expr} {kk : Nat} {tpos : Pos} (b1 b2 : Bool) {a c z TI TO i1 i2 : Addr} {xs ys : List V} (D : Apart5 z TI TO i1 i2 a c) :
    Turn P w K (.Tuple elts kk tpos) (ItP (fun H => SqX K b1 H a xs ∧ SqX K b2 H c ys) (min xs.length ys.length) fun i x y => xs[i]? = some x ∧ ys[i]? = some y) [z, TI, TO, i1, i2] z
      (fun i h => IsZip h z TI TO .none ∧ IsTupOf2 h TI (.ref i1) (.ref i2) ∧ (∃ a1 a2, IsTupOf2 h TO a1 a2) ∧ ItrX b1 h i1 a i ∧ ItrX b2 h i2 c i) where
  mem := by simp
  obj := fun i h st k hk => by
    obtain ⟨hz, hTI, ⟨x, y, hTO⟩, h1, h2⟩ := st
    have e' : k = z ∨ k = TI ∨ k = TO ∨ k = i1 ∨ k = i2 := by simpa using hk
    rcases e' with q | q | q | q | q
    · rw [q]; exact ⟨_, hz, fun v q => nomatch q⟩
    · rw [q]; exact ⟨_, hTI, fun v q => nomatch q⟩
    · rw [q]; exact ⟨_, hTO, fun v q => nomatch q⟩
    · rw [q]; exact itrX_obj h1
    · rw [q]; exact itrX_obj h2
  keep := fun i h h' st k => by
    obtain ⟨hz, hTI, ⟨x, y, hTO⟩, h1, h2⟩ := st
    exact ⟨k z (by simp) _ hz, k TI (by simp) _ hTI, ⟨x, y, k TO (by simp) _ hTO⟩, itrX_at h1 fun o q => k i1 (by simp) o q, itrX_at h2 fun o q => k i2 (by simp) o q⟩
  item := by
    intro X hP hw hK hc i pins s σ H E I hf st hg
    subst hP hw hK
    obtain ⟨hz, hTI, hTO, h1, h2⟩ := st
    obtain ⟨⟨hq1, hq2⟩, hlt⟩ := hg
    obtain ⟨its, rv, hl, hal, _⟩ := seqX I hq1
    obtain ⟨its2, rv2, hl2, hal2, _⟩ := seqX I hq2
    have hh : X.A.in1.handled = none := I.ok.hd hc
    have W := WalksT.zipD2 (prog := X.prog) (w := X.w) (A := X.A) D.sep (drawX b1 hh i1 a D.ai1 its.toArray) (drawX b2 hh i2 c D.ci2 its2.toArray)
    have hn : i < min its.toArray.size its2.toArray.size := by rw [List.size_toArray, List.size_toArray, ← rv.length, ← rv2.length]; exact hlt
    have hl1 : i < xs.length := by omega
    have hl22 : i < ys.length := by omega
    refine W.item i s _ _ hn ⟨hz, hTI, hTO, ⟨h1, hl⟩, ⟨h2, hl2⟩⟩ fun T vals h' tk hP hT hTup hm hk => ?_
    obtain ⟨u1, u2, hu1, hu2, rfl⟩ := hP
    refine ⟨_, rfl, W.go elts kk tpos i T { s with heap := h', toks := tk } _ _ hm fun h'' st'' hk2 => ?_⟩
    have nT := W.apart i T h' hm
    have hTup2 : h''.IsTuple T #[u1, u2] := hTup.at fun o q => hk2 T o nT q
    obtain ⟨x, hx⟩ : ∃ x, xs[i]? = some x := ⟨xs[i], by simp [hl1]⟩
    obtain ⟨y, hy⟩ : ∃ y, ys[i]? = some y := ⟨ys[i], by simp [hl22]⟩
    obtain ⟨u1', hu1', ru1⟩ := rv.get hx
    obtain ⟨u2', hu2', ru2⟩ := rv2.get hy
    have e1 : u1' = u1 := by
      have q : its[i]? = some u1 := by simpa using hu1
      rw [hu1'] at q
      exact Option.some.inj q
    have e2 : u2' = u2 := by
      have q : its2[i]? = some u2 := by simpa using hu2
      rw [hu2'] at q
      exact Option.some.inj q
    subst e1 e2
    have new : ObjOk X.prog X.w (upd H T (.tup [x, y])) h'' T (.tup [x, y]) := ⟨by show 2 ≤ sizeLine; decide, [u1', u2'], .cons ru1 (.cons ru2 .nil), hTup2⟩
    have hkk : ∀ k o, k ∉ [z, TI, TO, i1, i2] → s.heap.get? k = some o → h''.get? k = some o := fun k o hb q => by
      have nb : k ∉ [z, TO, i1, i2] := fun q' => hb (by
        have e' : k = z ∨ k = TO ∨ k = i1 ∨ k = i2 := by simpa using q'
        rcases e' with r | r | r | r <;> simp [r])
      exact hk2 k o nb (hk k o nb q)
    have I1 : Inv X pins σ (upd H T (.tup [x, y])) { s with heap := h'', toks := tk } := I.turnedNew (ch := [z, TI, TO, i1, i2]) hkk hf hT new
    have zlt : z < s.heap.objs.size := Heap.lt_size hz
    have TIlt : TI < s.heap.objs.size := Heap.lt_size hTI
    have TOlt : TO < s.heap.objs.size := by obtain ⟨_, _, q⟩ := hTO; exact Heap.lt_size q
    have i1lt : i1 < s.heap.objs.size := by obtain ⟨_, q, _⟩ := itrX_obj h1; exact Heap.lt_size q
    have i2lt : i2 < s.heap.objs.size := by obtain ⟨_, q, _⟩ := itrX_obj h2; exact Heap.lt_size q
    refine ⟨.ref T, _, I1, rfl, ⟨T, x, y, rfl, I.hok.fresh hT, rfl, hx, hy⟩, ⟨st''.1, st''.2.1, st''.2.2.1, st''.2.2.2.1.1, st''.2.2.2.2.1⟩, fun k hcm => ?_⟩
    have hlt2 : k < s.heap.objs.size := by
      have e' : k = z ∨ k = TI ∨ k = TO ∨ k = i1 ∨ k = i2 := by simpa using hcm
      rcases e' with q | q | q | q | q <;> (rw [q]; assumption)
    rw [upd_ne (Nat.ne_of_lt (Nat.lt_of_lt_of_le hlt2 hT))]
    exact (hf k hcm).1
  done := by
    intro X hP hw hK hc i pins s σ H E I hf st hg
    subst hP hw hK
    obtain ⟨hz, hTI, hTO, h1, h2⟩ := st
    obtain ⟨⟨hq1, hq2⟩, hlt⟩ := hg
    obtain ⟨its, rv, hl, hal, _⟩ := seqX I hq1
    obtain ⟨its2, rv2, hl2, hal2, _⟩ := seqX I hq2
    have hh : X.A.in1.handled = none := I.ok.hd hc
    have W := WalksT.zipD2 (prog := X.prog) (w := X.w) (A := X.A) D.sep (drawX b1 hh i1 a D.ai1 its.toArray) (drawX b2 hh i2 c D.ci2 its2.toArray)
    have hn : min its.toArray.size its2.toArray.size = i := by rw [List.size_toArray, List.size_toArray, ← rv.length, ← rv2.length]; exact hlt.symm
    refine W.done s _ _ ?_ fun h' tk hk => ⟨rfl, ?_⟩
    · rw [hn]
      exact ⟨hz, hTI, hTO, ⟨h1, hl⟩, ⟨h2, hl2⟩⟩
    · refine I.turnedL (ch := [z, TI, TO, i1, i2]) (t' := tk) (fun k o hb q => hk k o (fun q' => hb (by
        have e' : k = z ∨ k = TO ∨ k = i1 ∨ k = i2 := by simpa using q'
        rcases e' with r | r | r | r <;> simp [r])) q) hf
  self := fun A i s Q E st h => wpAny_pyIter_zip st.1 h
def iZipX (K : Fg) (ta : TA) : TI := fun σ H R => ta σ H fun vs H1 => ∃ b1 b2 a c xs ys, vs = [.ref a, .ref c] ∧ SqX K b1 H1 a xs ∧ SqX K b2 H1 c ys ∧
  R (ItP (fun H => SqX K b1 H a xs ∧ SqX K b2 H c ys) (min xs.length ys.length) fun i x y => xs[i]? = some x ∧ ys[i]? = some y) H1
theorem pi_zipX {X : Cx} {e e2 : Expr} {ta : TA} {p pos tpos : Pos} {elts : List Expr} {kk : Nat} (hg : Gl X "zip") (hm : X.mg "zip" = none) (ha : PA X [e, e2] ta)
    (hs : starEach [e, e2] X.env = (false, eval e X.env) :: starEach [e2] X.env) (hpl : (backTo pos (starEach [e2] X.env)).any (·.1) = false) :
    PI X (.Tuple elts kk tpos) (.Call (.Name "zip" p) [e, e2] [] pos) (iZipX X.K ta) := by
  refine ⟨fun pins s σ H R I h => ?_⟩
  refine Call_ (ld_blt I hg hm PyProof.Rows.boot_zip (PyProof.Rows.callWith_type1 (thn (ha.run pos pins s σ H _ I h) fun us s1 ⟨vs, H1, I1, r1, q1⟩ => ?_) hs hpl))
  obtain ⟨b1, b2, a, c, xs, ys, ex, hq1, hq2, q⟩ := q1
  subst ex
  cases r1 with
  | cons r rr =>
    cases rr with
    | cons r' rr =>
      cases rr
      cases r
      cases r'
      obtain ⟨its, rv, hl, hal, _⟩ := seqX I1 hq1
      obtain ⟨its2, rv2, hl2, hal2, _⟩ := seqX I1 hq2
      refine zip_begins2 (begX b1 a its.toArray) (begX b2 c its2.toArray) hl hl2 fun h' hz hTI hTO h1 h2 hsz hk => wpAny_pyIter_zip hz ?_
      have I2 : Inv X pins σ H1 { s1 with heap := h' } := I1.kept (t' := s1.toks) hk
      have D : Apart5 (s1.heap.objs.size + 4) (s1.heap.objs.size + 2) (s1.heap.objs.size + 3) s1.heap.objs.size (s1.heap.objs.size + 1) a c := by
        have ap : ∀ n x y : Nat, x < n → y < n → Apart5 (n + 4) (n + 2) (n + 3) n (n + 1) x y := fun n x y hx hy => by
          constructor <;> (show (_ : Nat) ≠ _) <;> omega
        exact ap _ _ _ hal hal2
      refine ⟨s1.heap.objs.size + 4, [s1.heap.objs.size + 4, s1.heap.objs.size + 2, s1.heap.objs.size + 3, s1.heap.objs.size, s1.heap.objs.size + 1], _, _, H1, rfl, I2, turn_zipX b1 b2 D, ⟨hz, hTI, ⟨_, _, hTO⟩, itrX_new h1, itrX_new h2⟩, fun k hcm => ?_, q⟩
      have hle : s1.heap.objs.size ≤ k := by
        have e' : k = s1.heap.objs.size + 4 ∨ k = s1.heap.objs.size + 2 ∨ k = s1.heap.objs.size + 3 ∨ k = s1.heap.objs.size ∨ k = s1.heap.objs.size + 1 := by simpa using hcm
        rcases e' with z | z | z | z | z
        · rw [z]; exact Nat.le_add_right _ _
        · rw [z]; exact Nat.le_add_right _ _
        · rw [z]; exact Nat.le_add_right _ _
        · rw [z]; exact Nat.le_refl _
        · rw [z]; exact Nat.le_add_right _ _
      exact I1.fpOk hle (I1.hok.fresh hle)
end Ev

end
section
set_option linter.all false
set_option maxHeartbeats 2000000
/-! Readings of expressions by the evaluator. -/
namespace Ev
open PySem PySem.Spec PyProof.Rows L2

theorem PE.imp {X : Cx} {e : Expr} {t t' : TE} (h : PE X e t) (w : ∀ σ H Q, t' σ H Q → t σ H Q) : PE X e t' := ⟨fun pins s σ H Q I q => h.run pins s σ H Q I (w σ H Q q)⟩
theorem PT.imp {X : Cx} {e : Expr} {t t' : TT} (h : PT X e t) (w : ∀ σ H Q, t' σ H Q → t σ H Q) : PT X e t' := ⟨fun pins s σ H Q I q => h.run pins s σ H Q I (w σ H Q q)⟩
theorem PW.imp {X : Cx} {e : Expr} {t t' : TT} (h : PW X e t) (w : ∀ σ H Q, t' σ H Q → t σ H Q) : PW X e t' := ⟨fun wh pins s σ H Q I q => h.run wh pins s σ H Q I (w σ H Q q)⟩
theorem PA.imp {X : Cx} {e : List Expr} {t t' : TA} (h : PA X e t) (w : ∀ σ H Q, t' σ H Q → t σ H Q) : PA X e t' := ⟨fun p pins s σ H Q I q => h.run p pins s σ H Q I (w σ H Q q)⟩
theorem PI.imp {X : Cx} {tg e : Expr} {t t' : TI} (h : PI X tg e t) (w : ∀ σ H Q, t' σ H Q → t σ H Q) : PI X tg e t' := ⟨fun pins s σ H Q I q => h.run pins s σ H Q I (w σ H Q q)⟩
theorem PG.imp {X : Cx} {e : Expr} {t t' : TG} (h : PG X e t) (w : ∀ v σ H Q, t' v σ H Q → t v σ H Q) : PG X e t' := by
  obtain ⟨h⟩ := h
  exact ⟨by intros; apply h <;> first | assumption | (apply w; assumption)⟩
theorem PE.or {X : Cx} {e : Expr} {t t' : TE} (h : PE X e t) (h' : PE X e t') : PE X e (fun σ H Q => t σ H Q ∨ t' σ H Q) := ⟨fun pins s σ H Q I q => q.elim (h.run pins s σ H Q I) (h'.run pins s σ H Q I)⟩
theorem PT.or {X : Cx} {e : Expr} {t t' : TT} (h : PT X e t) (h' : PT X e t') : PT X e (fun σ H Q => t σ H Q ∨ t' σ H Q) := ⟨fun pins s σ H Q I q => q.elim (h.run pins s σ H Q I) (h'.run pins s σ H Q I)⟩
theorem PI.or {X : Cx} {tg e : Expr} {t t' : TI} (h : PI X tg e t) (h' : PI X tg e t') : PI X tg e (fun σ H Q => t σ H Q ∨ t' σ H Q) := ⟨fun pins s σ H Q I q => q.elim (h.run pins s σ H Q I) (h'.run pins s σ H Q I)⟩

/-- the readings: the evaluator comes to an end, and whatever stands for it is fine -/
def RdE (K : Fg) (B : Bs) (g : Env → Res TV) : TE := fun σ H Q => ∃ F r, StR K B F H σ r ∧ ∃ t r', g r = .ok t r' ∧ ∀ x F' H', Post K B σ r F H r' F' H' → TvR K H σ F' H' t x → Q x H'
def RdC (K : Fg) (B : Bs) (g : Env → Res Bool) : TT := fun σ H Q => ∃ F r, StR K B F H σ r ∧ ∃ t r', g r = .ok t r' ∧ ∀ F' H', Post K B σ r F H r' F' H' → Q t H'
def RdA (K : Fg) (B : Bs) (g : Env → Res (List D)) : TA := fun σ H Q => ∃ F r, StR K B F H σ r ∧ ∃ t r', g r = .ok t r' ∧ ∀ xs F' H', Post K B σ r F H r' F' H' → RpL K F' xs t → Q xs H'
/-- an iterator over the data ds -/
structure WkD (K : Fg) (F : Hp) (J : It) (ds : List D) : Prop where
  goes : ∀ i H, i < ds.length → Sub F H → J.go i H
  stops : ∀ H, Sub F H → J.stop ds.length H
  yields : ∀ i H x H', i < ds.length → Sub F H → J.yld i H x H' → ∃ d, ds[i]? = some d ∧ Out K F H (.d d) x H'
def RdI (K : Fg) (B : Bs) (g : Env → Res (List D)) : TI := fun σ H R => ∃ F r, StR K B F H σ r ∧ ∃ t r', g r = .ok t r' ∧ ∀ J F' H', Post K B σ r F H r' F' H' → WkD K F' J t → R J H'

theorem StR.ne {K : Fg} {B : Bs} {F H : Hp} {σ : L2.St} {r : Env} (s : StR K B F H σ r) : ∀ a, Own σ r a → nT H a ≠ none := fun a h => by
  obtain ⟨o, e, _⟩ := s.ownH h
  refine nT_ne e fun ps z => (s.pl a h).1 ps (by rw [e, z])
theorem TvR.back {K : Fg} {H0 H1 : Hp} {σ : L2.St} {F H : Hp} {t : TV} {x : V} (h : TvR K H1 σ F H t x) (d : ∀ a, nT H0 a ≠ none → nT H1 a ≠ none) : TvR K H0 σ F H t x := by
  cases t with
  | d v => exact h
  | s i => exact h
  | f v =>
    obtain ⟨p, o, e, e1, e2, e3, e4⟩ := h
    exact ⟨p, o, e, e1, e2, e3, Classical.byContradiction fun n => d p n e4⟩
theorem Post.ne {K : Fg} {B : Bs} {σ : L2.St} {r r1 : Env} {F H F1 H1 : Hp} (p : Post K B σ r F H r1 F1 H1) (s : StR K B F H σ r) : ∀ a, Own σ r1 a → nT H a ≠ none := fun a h => s.ne a (p.own a h)

/-- an expression's value is given away -/
theorem solid_post {K : Fg} {B : Bs} {σ : L2.St} {r r1 r2 : Env} {F H F1 H1 : Hp} {t : TV} {x : V} {d : D} (s : StR K B F H σ r) (p : Post K B σ r F H r1 F1 H1) (h : TvR K H σ F1 H1 t x) (e : solid r1 t = some (d, r2)) :
    ∃ F2, Post K B σ r F H r2 F2 H1 ∧ Rp K F2 x d ∧ Sub F1 F2 := by
  obtain ⟨F2, h1, h2, h3, h4, h5⟩ := solid_rp p.st (p.ne s) h e
  refine ⟨F2, ⟨h2, p.mono.trans h3, p.frame, p.dom, fun a q => ?_, fun a q => p.own a (h5 a q)⟩, h1, h3⟩
  rcases h4 a q with z | z | z
  · exact p.fr a z
  · exact .inr (.inl (.inl z))
  · exact .inr (.inr (p.own a z))
theorem solidR_ok {r r' : Env} {t : TV} {d : D} (e : solidR r t = .ok d r') : solid r t = some (d, r') := by
  unfold solidR at e
  split at e
  · cases e; assumption
  · cases e
theorem bind_inv {α β : Type} {m : Res α} {f : α → Env → Res β} {b : β} {r : Env} (h : m.bind f = .ok b r) : ∃ a r1, m = .ok a r1 ∧ f a r1 = .ok b r := by
  cases m with
  | ok a r1 => exact ⟨a, r1, rfl, h⟩
  | exc c d r1 => cases h
  | stuck => cases h
theorem of_inv {α : Type} {o : Option α} {r r' : Env} {a : α} (h : Res.of o r = .ok a r') : o = some a ∧ r = r' := by
  unfold Res.of at h
  split at h
  · cases h; exact ⟨rfl, rfl⟩
  · cases h

section
variable {X : Cx} {B : Bs} {e a b c : Expr} {pos : Pos} {f g h : Env → Res TV}
theorem rd_var {i : Nat} {x : Str} (hN : X.N[i]? = some x) (hv : Vis X.env.scope x) (hd : (x == ("__debug__" : Str)) = false) (hcd : (x == ("__classdict__" : Str)) = false) (call : Nat → List Sl → CR) :
    PE X (.Name x pos) (RdE X.K B (ev call (.var i)).1) := by
  refine PE.imp (pe_var hN hv hd hcd) fun σ H Q ⟨F, r, s, t, r', e, k⟩ => ?_
  simp only [ev, tst] at e
  split at e
  · cases e
    rename_i d hr
    obtain ⟨y, e1, e2⟩ := s.val i _ hr
    exact ⟨y, e1, k y F H (Post.refl s) e2⟩
  · cases e
    rename_i d hr
    obtain ⟨y, o, e1, _⟩ := s.obj i _ (.inl hr)
    exact ⟨_, e1, k _ F H (Post.refl s) e1⟩
  · cases e
    rename_i d hr
    obtain ⟨y, o, e1, _⟩ := s.obj i _ (.inr hr)
    exact ⟨_, e1, k _ F H (Post.refl s) e1⟩
  · cases e
theorem rd_two {h : TV → TV → Env → Res TV} (r2 : R2) (hq : ∀ σ F H r t u v r' x y Q, StR X.K B F H σ r → h t u r = .ok v r' →
      (∀ d, deref r t = some d → Rq X.K F H x d) → (∀ d, deref r u = some d → Rq X.K F H y d) →
      (∀ z F' H', Post X.K B σ r F H r' F' H' → TvR X.K H σ F' H' v z → Q z H') → r2 x y H Q)
    {σ : L2.St} {H : Hp} {Q : VK} (q : RdE X.K B (fun r => (f r).bind fun x r1 => (g r1).bind fun y r2 => h x y r2) σ H Q) : tOp r2 (RdE X.K B f) (RdE X.K B g) σ H Q := by
  obtain ⟨F, r, s, t, r', e, k⟩ := q
  obtain ⟨x, r1, e1, e⟩ := bind_inv e
  obtain ⟨y, r2', e2, e⟩ := bind_inv e
  refine ⟨F, r, s, x, r1, e1, fun xv F1 H1 p1 t1 => ⟨F1, r1, p1.st, y, r2', e2, fun yv F2 H2 p2 t2 => ?_⟩⟩
  have t1' := t1.keep p2 (p1.ne s)
  refine hq σ F2 H2 r2' x y t r' xv yv Q p2.st e (fun d q => deref_rq p2.st t1' q) (fun d q => deref_rq p2.st t2 q) fun z F3 H3 p3 t3 => ?_
  exact k z F3 H3 ((p1.trans p2).trans p3) (t3.back fun a q => p2.dom a (p1.dom a q))
theorem rd_bin (o : Bo) (ha : PE X a (RdE X.K B f)) (hb : PE X b (RdE X.K B g)) :
    PE X (.BinOp a (opB o) b pos) (RdE X.K B fun r => (f r).bind fun x r1 => (g r1).bind fun y r2 => match deref r2 x, deref r2 y with
      | some u, some v => .of (bop o u v) r2
      | _, _ => .stuck) := by
  refine PE.imp (pe_op (or_bop o) ha hb) fun σ H Q q => rd_two _ (fun σ F H r t u v r' x y Q s e hx hy k => ?_) q
  split at e
  · rename_i d1 d2 z1 z2
    obtain ⟨e1, rfl⟩ := of_inv e
    refine ⟨F, d1, d2, v, s.sub, hx _ z1, hy _ z2, e1, fun z H' o => ?_⟩
    obtain ⟨F', p, tv⟩ := o.post s
    exact k z F' H' p tv
  · cases e
theorem rd_cmp (hu : X.A.units + 65 < cLine) (o : Co) (hm : behindInMarks (opC o) b = false) (ha : PE X a (RdE X.K B f)) (hb : PE X b (RdE X.K B g)) :
    PE X (.Compare a [opC o] [b] pos) (RdE X.K B fun r => (f r).bind fun x r1 => (g r1).bind fun y r2 => match deref r2 x, deref r2 y with
      | some u, some v => .of ((cop o u v).map fun t => .d (.bool t)) r2
      | _, _ => .stuck) := by
  refine PE.imp (pe_cmpR (or_cop hu o) ha hb hm) fun σ H Q q => rd_two _ (fun σ F H r t u v r' x y Q s e hx hy k => ?_) q
  split at e
  · rename_i d1 d2 z1 z2
    obtain ⟨e1, rfl⟩ := of_inv e
    rw [Option.map_eq_some_iff] at e1
    obtain ⟨b, e1, rfl⟩ := e1
    exact ⟨F, d1, d2, b, s.sub, hx _ z1, hy _ z2, e1, k _ F H (Post.refl s) (.bl b)⟩
  · cases e
theorem rd_idx (hs : PlainIx b) (ha : PE X a (RdE X.K B f)) (hb : PE X b (RdE X.K B g)) :
    PE X (.Subscript a b pos) (RdE X.K B fun r => (f r).bind fun x r1 => (g r1).bind fun y r2 => match deref r2 x, deref r2 y with
      | some u, some v => .of ((idx u v).map .d) r2
      | _, _ => .stuck) := by
  refine PE.imp (pe_ix ix_idx ha hb hs) fun σ H Q q => rd_two _ (fun σ F H r t u v r' x y Q s e hx hy k => ?_) q
  split at e
  · rename_i d1 d2 z1 z2
    obtain ⟨e1, rfl⟩ := of_inv e
    rw [Option.map_eq_some_iff] at e1
    obtain ⟨b, e1, rfl⟩ := e1
    exact ⟨F, d1, d2, b, s.sub, hx _ z1, hy _ z2, e1, fun z hz => k _ F H (Post.refl s) hz⟩
  · cases e
/-- a test by the truth of a value -/
theorem rd_tst (he : ∀ whole, isTrue e X.env whole = (do let v ← whole; standAt e.pos; holding [v] (truthy v))) (ha : PE X e (RdE X.K B f)) : PT X e (RdC X.K B (tst f).2) := by
  refine PT.imp (pt_truth ha he) fun σ H Q ⟨F, r, s, t, r', e, k⟩ => ?_
  simp only [tst] at e
  obtain ⟨x, r1, e1, e⟩ := bind_inv e
  refine ⟨F, r, s, x, r1, e1, fun xv F1 H1 p1 t1 => ?_⟩
  split at e
  · rename_i d1 z1
    obtain ⟨e2, rfl⟩ := of_inv e
    exact ⟨t, truth_tru p1.st.sub (deref_rq p1.st t1 z1) e2, k F1 H1 p1⟩
  · cases e
/-- a comparison as a test -/
theorem rd_cmpT (hu : X.A.units + 65 < cLine) (o : Co) (hm : behindInMarks (opC o) b = false) (ha : PE X a (RdE X.K B f)) (hb : PE X b (RdE X.K B g)) :
    PT X (.Compare a [opC o] [b] pos) (RdC X.K B (tst fun r => (f r).bind fun x r1 => (g r1).bind fun y r2 => match deref r2 x, deref r2 y with
      | some u, some v => .of ((cop o u v).map fun t => .d (.bool t)) r2
      | _, _ => .stuck).2) := by
  refine PT.imp (pt_cmpR (or_cop hu o) ha hb hm) fun σ H Q q => ?_
  refine rd_two (h := fun x y r2 => match deref r2 x, deref r2 y with
      | some u, some v => .of ((cop o u v).map fun t => .d (.bool t)) r2
      | _, _ => .stuck) _ (fun σ F H r t u v r' x y Q s e hx hy k => ?_) ?_
  · split at e
    · rename_i d1 d2 z1 z2
      obtain ⟨e1, rfl⟩ := of_inv e
      rw [Option.map_eq_some_iff] at e1
      obtain ⟨b, e1, rfl⟩ := e1
      exact ⟨F, d1, d2, b, s.sub, hx _ z1, hy _ z2, e1, k _ F H (Post.refl s) (.bl b)⟩
    · cases e
  · obtain ⟨F, r, s, t, r', e, k⟩ := q
    simp only [tst] at e
    obtain ⟨x, r1, e1, e⟩ := bind_inv e
    refine ⟨F, r, s, x, r1, e1, fun z F' H' p tv => ?_⟩
    have key : ∃ bb : Bool, x = .d (.bool bb) := by
      obtain ⟨x1, r2, _, e1⟩ := bind_inv e1
      obtain ⟨y1, r3, _, e1⟩ := bind_inv e1
      split at e1
      · obtain ⟨e1, _⟩ := of_inv e1
        rw [Option.map_eq_some_iff] at e1
        obtain ⟨_, _, e1⟩ := e1
        exact ⟨_, e1.symm⟩
      · cases e1
    obtain ⟨bb, rfl⟩ := key
    cases tv
    obtain ⟨e2, rfl⟩ := of_inv e
    cases e2
    exact ⟨_, rfl, k F' H' p⟩
end
end Ev

end
section
set_option linter.all false
set_option maxHeartbeats 2000000
namespace Ev
open PySem PySem.Spec PyProof.Rows L2
section
variable {X : Cx} {B : Bs} {e a b c : Expr} {pos : Pos} {f g h : Env → Res TV} {fc gc : Env → Res Bool}
theorem rd_neg (ha : PE X a (RdE X.K B f)) : PE X (.UnaryOp .USub a pos) (RdE X.K B fun r => (f r).bind fun x r1 => match x with
      | .d (.int i) => .ok (.d (.int (-i))) r1
      | _ => .stuck) := by
  refine PE.imp (pe_un un_neg ha) fun σ H Q ⟨F, r, s, t, r', e, k⟩ => ?_
  obtain ⟨x, r1, e1, e⟩ := bind_inv e
  refine ⟨F, r, s, x, r1, e1, fun xv F1 H1 p1 t1 => ?_⟩
  split at e
  · cases e
    cases t1
    exact ⟨_, rfl, k _ F1 H1 p1 (.int _)⟩
  · cases e
theorem rd_not (ha : PE X a (RdE X.K B f)) : PE X (.UnaryOp .Not a pos) (RdE X.K B fun r => ((tst f).2 r).bind fun t r1 => .ok (.d (.bool (!t))) r1) := by
  refine PE.imp (pe_notT ha) fun σ H Q ⟨F, r, s, t, r', e, k⟩ => ?_
  obtain ⟨b, r1, e0, e⟩ := bind_inv e
  cases e
  simp only [tst] at e0
  obtain ⟨x, r2, e1, e2⟩ := bind_inv e0
  refine ⟨F, r, s, x, r2, e1, fun xv F1 H1 p1 t1 => ?_⟩
  split at e2
  · rename_i d1 z1
    obtain ⟨e3, rfl⟩ := of_inv e2
    exact ⟨b, truth_tru p1.st.sub (deref_rq p1.st t1 z1) e3, k _ F1 H1 p1 (.bl _)⟩
  · cases e2
theorem rd_notT (ha : PT X a (RdC X.K B fc)) : PT X (.UnaryOp .Not a pos) (RdC X.K B fun r => (fc r).bind fun t r1 => .ok (!t) r1) := by
  refine PT.imp (pt_not ha) fun σ H Q ⟨F, r, s, t, r', e, k⟩ => ?_
  obtain ⟨x, r1, e1, e⟩ := bind_inv e
  cases e
  exact ⟨F, r, s, x, r', e1, fun F1 H1 p1 => k F1 H1 p1⟩
theorem rd_andE (ha : PE X a (RdE X.K B f)) {rest : List Expr} (hb : PE X (.BoolOp .And (b :: rest) pos) (RdE X.K B g)) : PE X (.BoolOp .And (a :: b :: rest) pos) (RdE X.K B fun r => (f r).bind fun x r1 => match x with
      | .d (.bool true) => g r1
      | .d (.bool false) => .ok (.d (.bool false)) r1
      | _ => .stuck) := by
  refine PE.imp (pe_and ha hb) fun σ H Q ⟨F, r, s, t, r', e, k⟩ => ?_
  obtain ⟨x, r1, e1, e⟩ := bind_inv e
  refine ⟨F, r, s, x, r1, e1, fun xv F1 H1 p1 t1 => ?_⟩
  split at e
  · cases t1
    refine ⟨true, rfl, ?_⟩
    rw [if_pos rfl]
    exact ⟨F1, r1, p1.st, t, r', e, fun z F2 H2 p2 t2 => k z F2 H2 (p1.trans p2) (t2.back p1.dom)⟩
  · cases e
    cases t1
    refine ⟨false, rfl, ?_⟩
    rw [if_neg (by decide)]
    exact k _ F1 H1 p1 (.bl _)
  · cases e
theorem rd_orE (ha : PE X a (RdE X.K B f)) {rest : List Expr} (hb : PE X (.BoolOp .Or (b :: rest) pos) (RdE X.K B g)) : PE X (.BoolOp .Or (a :: b :: rest) pos) (RdE X.K B fun r => (f r).bind fun x r1 => match x with
      | .d (.bool true) => .ok (.d (.bool true)) r1
      | .d (.bool false) => g r1
      | _ => .stuck) := by
  refine PE.imp (pe_or ha hb) fun σ H Q ⟨F, r, s, t, r', e, k⟩ => ?_
  obtain ⟨x, r1, e1, e⟩ := bind_inv e
  refine ⟨F, r, s, x, r1, e1, fun xv F1 H1 p1 t1 => ?_⟩
  split at e
  · cases e
    cases t1
    refine ⟨true, rfl, ?_⟩
    rw [if_pos rfl]
    exact k _ F1 H1 p1 (.bl _)
  · cases t1
    refine ⟨false, rfl, ?_⟩
    rw [if_neg (by decide)]
    exact ⟨F1, r1, p1.st, t, r', e, fun z F2 H2 p2 t2 => k z F2 H2 (p1.trans p2) (t2.back p1.dom)⟩
  · cases e
theorem rd_one {op : BoolOp} (ha : PE X a (RdE X.K B f)) : PE X (.BoolOp op [a] pos) (RdE X.K B f) := pe_one ha
theorem rd_andC (ha : PT X a (RdC X.K B fc)) {rest : List Expr} (hb : PW X (.BoolOp .And (b :: rest) pos) (RdC X.K B gc)) : PW X (.BoolOp .And (a :: b :: rest) pos) (RdC X.K B fun r => (fc r).bind fun t r1 => match t with
      | true => gc r1
      | false => .ok false r1) := by
  refine PW.imp (pw_and ha hb) fun σ H Q ⟨F, r, s, t, r', e, k⟩ => ?_
  obtain ⟨x, r1, e1, e⟩ := bind_inv e
  refine ⟨F, r, s, x, r1, e1, fun F1 H1 p1 => ?_⟩
  cases x with
  | true =>
    rw [if_pos rfl]
    exact ⟨F1, r1, p1.st, t, r', e, fun F2 H2 p2 => k F2 H2 (p1.trans p2)⟩
  | false =>
    rw [if_neg (by decide)]
    cases e
    exact k F1 H1 p1
theorem rd_orC (ha : PT X a (RdC X.K B fc)) {rest : List Expr} (hb : PW X (.BoolOp .Or (b :: rest) pos) (RdC X.K B gc)) : PW X (.BoolOp .Or (a :: b :: rest) pos) (RdC X.K B fun r => (fc r).bind fun t r1 => match t with
      | true => .ok true r1
      | false => gc r1) := by
  refine PW.imp (pw_or ha hb) fun σ H Q ⟨F, r, s, t, r', e, k⟩ => ?_
  obtain ⟨x, r1, e1, e⟩ := bind_inv e
  refine ⟨F, r, s, x, r1, e1, fun F1 H1 p1 => ?_⟩
  cases x with
  | true =>
    rw [if_pos rfl]
    cases e
    exact k F1 H1 p1
  | false =>
    rw [if_neg (by decide)]
    exact ⟨F1, r1, p1.st, t, r', e, fun F2 H2 p2 => k F2 H2 (p1.trans p2)⟩
theorem rd_ifeE (hc : PT X c (RdC X.K B fc)) (ha : PE X a (RdE X.K B f)) (hb : PE X b (RdE X.K B g)) : PE X (.IfExp c a b pos) (RdE X.K B fun r => (fc r).bind fun t r1 => match t with
      | true => f r1
      | false => g r1) := by
  refine PE.imp (pe_ifExp hc ha hb) fun σ H Q ⟨F, r, s, t, r', e, k⟩ => ?_
  obtain ⟨x, r1, e1, e⟩ := bind_inv e
  refine ⟨F, r, s, x, r1, e1, fun F1 H1 p1 => ?_⟩
  cases x with
  | true =>
    rw [if_pos rfl]
    exact ⟨F1, r1, p1.st, t, r', e, fun z F2 H2 p2 t2 => k z F2 H2 (p1.trans p2) (t2.back p1.dom)⟩
  | false =>
    rw [if_neg (by decide)]
    exact ⟨F1, r1, p1.st, t, r', e, fun z F2 H2 p2 t2 => k z F2 H2 (p1.trans p2) (t2.back p1.dom)⟩
def tIfT (t ta tb : TT) : TT := fun σ H Q => t σ H fun c H1 => if c = true then ta σ H1 Q else tb σ H1 Q
theorem pt_ifExp {tc ta tb : TT} (hc : PT X c tc) (ha : PT X a ta) (hb : PT X b tb) : PT X (.IfExp c a b pos) (tIfT tc ta tb) := by
  refine ⟨fun pins s σ H Q I h => ?_⟩
  rw [arm_isTrue_IfExp]
  refine wpAny_bind (thn (hc.run pins s σ H _ I h) fun d s1 ⟨H1, I1, q1⟩ => ?_)
  cases d with
  | true => exact ha.run pins s1 σ H1 Q I1 q1
  | false => exact hb.run pins s1 σ H1 Q I1 q1
theorem rd_ifeC {ac bc : Env → Res Bool} (hc : PT X c (RdC X.K B fc)) (ha : PT X a (RdC X.K B ac)) (hb : PT X b (RdC X.K B bc)) : PT X (.IfExp c a b pos) (RdC X.K B fun r => (fc r).bind fun t r1 => match t with
      | true => ac r1
      | false => bc r1) := by
  refine PT.imp (pt_ifExp hc ha hb) fun σ H Q ⟨F, r, s, t, r', e, k⟩ => ?_
  obtain ⟨x, r1, e1, e⟩ := bind_inv e
  refine ⟨F, r, s, x, r1, e1, fun F1 H1 p1 => ?_⟩
  cases x with
  | true =>
    rw [if_pos rfl]
    exact ⟨F1, r1, p1.st, t, r', e, fun F2 H2 p2 => k F2 H2 (p1.trans p2)⟩
  | false =>
    rw [if_neg (by decide)]
    exact ⟨F1, r1, p1.st, t, r', e, fun F2 H2 p2 => k F2 H2 (p1.trans p2)⟩
/-! ### argument lists -/
theorem rd_nil : PA X [] (RdA X.K B fun r => .ok [] r) := PA.imp pa_nil fun σ H Q ⟨F, r, s, t, r', e, k⟩ => by
  cases e
  exact k [] F H (Post.refl s) .nil
theorem RpL.mono' {K : Fg} {F H : Hp} (s : Sub F H) {v : List V} {d : List D} (h : RpL K F v d) : RpL K H v d := h.mono s
theorem rd_cons {es : List Expr} {fa : Env → Res (List D)} (ha : PE X a (RdE X.K B f)) (hr : PA X es (RdA X.K B fa)) (hs : starEach (a :: es) X.env = (false, eval a X.env) :: starEach es X.env) :
    PA X (a :: es) (RdA X.K B fun r => (f r).bind fun x r1 => (solidR r1 x).bind fun v r2 => (fa r2).bind fun vs r3 => .ok (v :: vs) r3) := by
  refine PA.imp (pa_cons ha hr hs) fun σ H Q ⟨F, r, s, t, r', e, k⟩ => ?_
  obtain ⟨x, r1, e1, e⟩ := bind_inv e
  obtain ⟨v, r2, e2, e⟩ := bind_inv e
  obtain ⟨vs, r3, e3, e⟩ := bind_inv e
  cases e
  refine ⟨F, r, s, x, r1, e1, fun xv F1 H1 p1 t1 => ?_⟩
  obtain ⟨F2, p2, h2, m2⟩ := solid_post s p1 t1 (solidR_ok e2)
  refine ⟨F2, r2, p2.st, vs, r', e3, fun xs F3 H3 p3 h3 => ?_⟩
  exact k (xv :: xs) F3 H3 (p2.trans p3) (.cons (h2.mono p3.mono) h3)
theorem rd_tup {es : List Expr} {fa : Env → Res (List D)} {x1 : Nat} (ha : PA X es (RdA X.K B fa)) : PE X (.Tuple es x1 pos) (RdE X.K B fun r => (fa r).bind fun xs r1 => if xs.length ≤ SZ then .ok (.d (.tuple xs)) r1 else .stuck) := by
  refine PE.imp (pe_tup ha) fun σ H Q ⟨F, r, s, t, r', e, k⟩ => ?_
  obtain ⟨x, r1, e1, e⟩ := bind_inv e
  split at e
  · rename_i w
    cases e
    refine ⟨F, r, s, x, r', e1, fun xs F1 H1 p1 h1 => ⟨by rw [h1.length, ← szl]; exact w, fun p hp => ?_⟩⟩
    obtain ⟨F2, p2, t2⟩ := Out.post p1.st (.tup hp h1)
    exact k _ F2 _ (p1.trans p2) (t2.back p1.dom)
  · cases e
theorem rd_lst {es : List Expr} {fa : Env → Res (List D)} (ha : PA X es (RdA X.K B fa)) : PE X (.List es pos) (RdE X.K B fun r => (fa r).bind fun xs r1 => if xs.length ≤ SZ then .ok (.f (.list xs)) r1 else .stuck) := by
  refine PE.imp (pe_lst ha) fun σ H Q ⟨F, r, s, t, r', e, k⟩ => ?_
  obtain ⟨x, r1, e1, e⟩ := bind_inv e
  split at e
  · rename_i w
    cases e
    refine ⟨F, r, s, x, r', e1, fun xs F1 H1 p1 h1 => ⟨by rw [h1.length, ← szl]; exact w, fun p hp => ?_⟩⟩
    obtain ⟨F2, p2, t2⟩ := Out.post p1.st (.lst hp h1)
    exact k _ F2 _ (p1.trans p2) (t2.back p1.dom)
  · cases e
/-! ### slices -/
def RdO (K : Fg) (B : Bs) (g : Env → Res (Option D)) : TO := fun σ H Q => ∃ F r, StR K B F H σ r ∧ ∃ t r' o, g r = .ok t r' ∧ optI t = some o ∧ ∀ F' H', Post K B σ r F H r' F' H' → Q o H'
theorem PO.imp {eo : Option Expr} {t t' : TO} (h : PO X eo t) (w : ∀ σ H Q, t' σ H Q → t σ H Q) : PO X eo t' := ⟨fun pins s σ H Q I q => h.run pins s σ H Q I (w σ H Q q)⟩
theorem rd_no : PO X none (RdO X.K B fun r => .ok none r) := PO.imp po_none fun σ H Q ⟨F, r, s, t, r', o, e, eo, k⟩ => by
  cases e
  cases eo
  exact k F H (Post.refl s)
theorem rd_yes (ha : PE X a (RdE X.K B f)) : PO X (some a) (RdO X.K B fun r => (f r).bind fun x r1 => match deref r1 x with
      | some u => .ok (some u) r1
      | none => .stuck) := PO.imp (po_some ha) fun σ H Q ⟨F, r, s, t, r', o, e, eo, k⟩ => by
  obtain ⟨x, r1, e1, e⟩ := bind_inv e
  refine ⟨F, r, s, x, r1, e1, fun xv F1 H1 p1 t1 => ?_⟩
  split at e
  · rename_i u z
    cases e
    have hq := deref_rq p1.st t1 z
    unfold optI at eo
    split at eo
    · rename_i q
      cases q
    · rename_i i q
      cases q
      cases eo
      exact ⟨i, hq.int, k F1 H1 p1⟩
    · cases eo
  · cases e
theorem rd_slc {lo hi : Option Expr} {p2 : Pos} {fl fh : Env → Res (Option D)} (ha : PE X a (RdE X.K B f)) (hl : PO X lo (RdO X.K B fl)) (hh : PO X hi (RdO X.K B fh)) :
    PE X (.Subscript a (.Slice lo hi none p2) pos) (RdE X.K B fun r => (f r).bind fun x r1 => (fl r1).bind fun l r2 => (fh r2).bind fun h r3 =>
      match deref r3 x, optI l, optI h with
      | some u, some l', some h' => .of (slice l' h' u) r3
      | _, _, _ => .stuck) := by
  refine PE.imp (pe_slice sl_slc ha hl hh) fun σ H Q ⟨F, r, s, t, r', e, k⟩ => ?_
  obtain ⟨x, r1, e1, e⟩ := bind_inv e
  obtain ⟨l, r2, e2, e⟩ := bind_inv e
  obtain ⟨h, r3, e3, e⟩ := bind_inv e
  split at e
  · rename_i u l' h' z1 z2 z3
    obtain ⟨e4, rfl⟩ := of_inv e
    refine ⟨F, r, s, x, r1, e1, fun xv F1 H1 p1 t1 => ⟨F1, r1, p1.st, l, r2, l', e2, z2, fun F2 H2 p2 => ⟨F2, r2, p2.st, h, r3, h', e3, z3, fun F3 H3 p3 => ?_⟩⟩⟩
    have t3 := (t1.keep p2 (p1.ne s)).keep p3 fun a q => p1.ne s a (p2.own a q)
    refine ⟨F3, u, t, p3.st.sub, deref_rq p3.st t3 z1, e4, fun z H' o => ?_⟩
    obtain ⟨F4, p4, t4⟩ := o.post p3.st
    exact k z F4 H' (((p1.trans p2).trans p3).trans p4) (t4.back fun a q => p3.dom a (p2.dom a (p1.dom a q)))
  · cases e
end
end Ev

end
section
set_option linter.all false
set_option maxHeartbeats 2000000
namespace Ev
open PySem PySem.Spec PyProof.Rows L2
def plainE : Expr → Bool
  | .Starred _ _ => false
  | _ => true
theorem star_cons {e : Expr} {es : List Expr} {env : PySem.Env} (h : plainE e = true) : starEach (e :: es) env = (false, eval e env) :: starEach es env := by
  cases e <;> first | rfl | (simp [plainE] at h)
theorem star_any {env : PySem.Env} {pos : Pos} : ∀ {es : List Expr}, es.all plainE = true → (backTo pos (starEach es env)).any (·.1) = false
  | [], _ => rfl
  | e :: es, h => by
    rw [List.all_cons, Bool.and_eq_true] at h
    rw [star_cons h.1]
    have ih := star_any (env := env) (pos := pos) h.2
    show (false || (backTo pos (starEach es env)).any (·.1)) = false
    rw [ih]
    rfl
section
variable {X : Cx} {B : Bs} {e a b c : Expr} {pos : Pos} {f g h : Env → Res TV} {fc gc : Env → Res Bool}
/-- a test by a value that is a bool -/
theorem rd_tTest {gv : Env → Res TV} (hb : ∀ r t r', gv r = .ok t r' → ∃ bb : Bool, t = .d (.bool bb)) {σ : L2.St} {H : Hp} {Q : Bool → Hp → Prop} (q : RdC X.K B (tst gv).2 σ H Q) : RdE X.K B gv σ H (fun x H' => ∃ k, x = .bl k ∧ Q k H') := by
  obtain ⟨F, r, s, t, r', e, k⟩ := q
  simp only [tst] at e
  obtain ⟨x, r1, e1, e⟩ := bind_inv e
  refine ⟨F, r, s, x, r1, e1, fun z F' H' p tv => ?_⟩
  obtain ⟨bb, rfl⟩ := hb _ _ _ e1
  cases tv
  obtain ⟨e2, rfl⟩ := of_inv e
  cases e2
  exact ⟨_, rfl, k F' H' p⟩
/-! ### chains -/
abbrev chnG (o p : Co) (f g h : Env → Res TV) : Env → Res TV := fun r => (f r).bind fun x r1 => (g r1).bind fun y r2 =>
      match deref r2 x, deref r2 y with
      | some u, some v => match cop o u v with
        | some true => (h r2).bind fun z r3 => match deref r3 y, deref r3 z with
          | some v', some w => .of ((cop p v' w).map fun t => .d (.bool t)) r3
          | _, _ => .stuck
        | some false => .ok (.d (.bool false)) r2
        | none => .stuck
      | _, _ => .stuck
theorem chn_bool {o p : Co} (r : Env) (t : TV) (r' : Env) (e : chnG o p f g h r = .ok t r') : ∃ bb : Bool, t = .d (.bool bb) := by
  obtain ⟨x, r1, _, e⟩ := bind_inv e
  obtain ⟨y, r2, _, e⟩ := bind_inv e
  split at e
  · split at e
    · obtain ⟨z, r3, _, e⟩ := bind_inv e
      split at e
      · obtain ⟨e, _⟩ := of_inv e
        rw [Option.map_eq_some_iff] at e
        obtain ⟨_, _, e⟩ := e
        exact ⟨_, e.symm⟩
      · cases e
    · cases e
      exact ⟨_, rfl⟩
    · cases e
  · cases e
theorem chn_imp {o p : Co} {σ : L2.St} {H : Hp} {Q : VK} (q : RdE X.K B (chnG o p f g h) σ H Q) : tChain (rCo X.K o) (rCo X.K p) (RdE X.K B f) (RdE X.K B g) (RdE X.K B h) σ H Q := by
  obtain ⟨F, r, s, t, r', e, k⟩ := q
  obtain ⟨x, r1, e1, e⟩ := bind_inv e
  obtain ⟨y, r2, e2, e⟩ := bind_inv e
  refine ⟨F, r, s, x, r1, e1, fun xv F1 H1 p1 t1 => ⟨F1, r1, p1.st, y, r2, e2, fun yv F2 H2 p2 t2 => ?_⟩⟩
  have t1' := t1.keep p2 (p1.ne s)
  split at e
  · rename_i u v z1 z2
    have hx := deref_rq p2.st t1' z1
    have hy := deref_rq p2.st t2 z2
    split at e
    · rename_i ec
      obtain ⟨z, r3, e3, e⟩ := bind_inv e
      refine ⟨F2, u, v, true, p2.st.sub, hx, hy, ec, true, rfl, ?_⟩
      rw [if_pos rfl]
      refine ⟨F2, r2, p2.st, z, r3, e3, fun zv F3 H3 p3 t3 => ?_⟩
      have t2' := t2.keep p3 (p2.ne p1.st)
      split at e
      · rename_i v' w z3 z4
        obtain ⟨e5, rfl⟩ := of_inv e
        rw [Option.map_eq_some_iff] at e5
        obtain ⟨bb, e4, rfl⟩ := e5
        exact ⟨F3, v', w, bb, p3.st.sub, deref_rq p3.st t2' z3, deref_rq p3.st t3 z4, e4, k _ F3 H3 ((p1.trans p2).trans p3) (.bl _)⟩
      · cases e
    · rename_i ec
      cases e
      refine ⟨F2, u, v, false, p2.st.sub, hx, hy, ec, false, rfl, ?_⟩
      rw [if_neg (by decide)]
      exact k _ F2 H2 (p1.trans p2) (.bl _)
    · cases e
  · cases e
theorem rd_chn (hu : X.A.units + 65 < cLine) (o p : Co) (hm : lastMarks [opC o, opC p] [b, c] = false) (ha : PE X a (RdE X.K B f)) (hb : PE X b (RdE X.K B g)) (hc : PE X c (RdE X.K B h)) :
    PE X (.Compare a [opC o, opC p] [b, c] pos) (RdE X.K B (chnG o p f g h)) := PE.imp (pe_chain (or_cop hu o) (or_cop hu p) ha hb hc hm) fun _ _ _ q => chn_imp q
theorem rd_chnT (hu : X.A.units + 65 < cLine) (o p : Co) (hm : lastMarks [opC o, opC p] [b, c] = false) (ha : PE X a (RdE X.K B f)) (hb : PE X b (RdE X.K B g)) (hc : PE X c (RdE X.K B h)) :
    PT X (.Compare a [opC o, opC p] [b, c] pos) (RdC X.K B (tst (chnG o p f g h)).2) := PT.imp (pt_chain (or_cop hu o) (or_cop hu p) ha hb hc hm) fun _ _ _ q => chn_imp (rd_tTest chn_bool q)
/-! ### built-ins -/
theorem boot_ty (t : Ty) : bootBuiltins (tyN t) = some (.type (tyN t)) := by cases t <;> decide +kernel
theorem ty_dbg (t : Ty) : ((tyN t : Str) == ("__debug__" : Str)) = false := by cases t <;> decide
theorem ty_name (t : Ty) : (tyN t : Str) ≠ "__name__" := by cases t <;> decide
theorem rd_isi (hg : Gl X "isinstance") (hm : X.mg "isinstance" = none) {t : Ty} (hg2 : Gl X (tyN t)) (hm2 : X.mg (tyN t) = none) {p p2 : Pos} (hpl : plainE a = true) (ha : PE X a (RdE X.K B f)) :
    PE X (.Call (.Name "isinstance" p) [a, .Name (tyN t) p2] [] pos) (RdE X.K B fun r => (f r).bind fun x r1 => match deref r1 x with
      | some u => if notDict u = true then .ok (.d (.bool (isTy t u))) r1 else .stuck
      | none => .stuck) := by
  have pt : PE X (.Name (tyN t) p2) (tC (.ty (tyN t))) := pe_bltn hg2 hm2 (boot_ty t) rfl (ty_name t) (ty_dbg t)
  refine PE.imp (pe_callB call_isi hg hm boot_isinstance (pa_cons ha (pa_cons pt pa_nil (star_cons rfl)) (star_cons hpl)) (he := star_cons hpl) (hpl := star_any rfl)) fun σ H Q ⟨F, r, s, tv, r', e, k⟩ => ?_
  obtain ⟨x, r1, e1, e⟩ := bind_inv e
  refine ⟨F, r, s, x, r1, e1, fun xv F1 H1 p1 t1 => ?_⟩
  split at e
  · rename_i u z
    split at e
    · rename_i w
      cases e
      have hq := deref_rq p1.st t1 z
      exact ⟨xv, _, _, _, _, rfl, .ty _, tyx p1.st.sub hq w, kit_ty X.K u t w, k _ F1 H1 p1 (.bl _)⟩
    · cases e
  · cases e
def b1N : B1 → String
  | .abs => "abs"
  | .int => "int"
  | .len => "len"
  | .list => "list"
  | .tuple => "tuple"
  | .sum => "sum"
  | .all => "all"
  | .any => "any"
  | .max => "max"
  | .min => "min"
  | .sorted => "sorted"
  | .str => "str"
  | .repr => "repr"
def b1F : B1 → Bool
  | .int => false
  | .list => false
  | .tuple => false
  | .str => false
  | _ => true
theorem boot_b1 (b : B1) : bootBuiltins (b1N b) = some (b1V b) := by cases b <;> decide +kernel
theorem b1_name (b : B1) : (b1N b : Str) ≠ "__name__" := by cases b <;> decide
theorem b1_dbg (b : B1) : ((b1N b : Str) == ("__debug__" : Str)) = false := by cases b <;> decide
theorem b1_val (b : B1) : b1V b = if b1F b then .builtin (b1N b) else .type (b1N b) := by cases b <;> rfl
theorem pe_b1 (hc : X.calm = true) (b : B1) {p : Pos} (hg : Gl X (b1N b)) (hm : X.mg (b1N b) = none) (hpl : plainE a = true) {t : TA} (ha : PA X [a] t) : PE X (.Call (.Name (b1N b) p) [a] [] pos) (tCB (rB1 X.K b) t) := by
  have h1 := cr_b1 hc b
  have h2 := boot_b1 b
  rw [b1_val] at h1 h2
  cases q : b1F b with
  | true =>
    rw [q] at h1 h2
    exact pe_callB h1 hg hm h2 ha (b1_name b) (b1_dbg b) (star_cons hpl) (star_any rfl)
  | false =>
    rw [q] at h1 h2
    exact pe_callTy h1 hg hm h2 ha (b1_name b) (b1_dbg b) (star_cons hpl) (star_any rfl)
theorem rd_bl1 (hc : X.calm = true) (b : B1) {p : Pos} (hg : Gl X (b1N b)) (hm : X.mg (b1N b) = none) (hpl : plainE a = true) (ha : PE X a (RdE X.K B f)) :
    PE X (.Call (.Name (b1N b) p) [a] [] pos) (RdE X.K B fun r => (f r).bind fun x r1 => match deref r1 x with
      | some u => .of (b1 b u) r1
      | none => .stuck) := by
  refine PE.imp (pe_b1 hc b hg hm hpl (pa_cons ha pa_nil (star_cons hpl))) fun σ H Q ⟨F, r, s, tv, r', e, k⟩ => ?_
  obtain ⟨x, r1, e1, e⟩ := bind_inv e
  refine ⟨F, r, s, x, r1, e1, fun xv F1 H1 p1 t1 => ?_⟩
  split at e
  · rename_i u z
    obtain ⟨e2, rfl⟩ := of_inv e
    refine ⟨F1, xv, u, tv, rfl, p1.st.sub, deref_rq p1.st t1 z, e2, fun y H' o => ?_⟩
    obtain ⟨F2, p2, t2⟩ := o.post p1.st
    exact k y F2 H' (p1.trans p2) (t2.back p1.dom)
  · cases e
def b2N : B2 → String
  | .max => "max"
  | .min => "min"
theorem boot_b2 (b : B2) : bootBuiltins (b2N b) = some (.builtin (b2N b)) := by cases b <;> decide +kernel
theorem rd_bl2 (hcm : X.calm = true) (b : B2) {p : Pos} (hg : Gl X (b2N b)) (hm : X.mg (b2N b) = none) {a2 : Expr} (hp1 : plainE a = true) (hp2 : plainE a2 = true) (ha : PE X a (RdE X.K B f)) (hb : PE X a2 (RdE X.K B g)) :
    PE X (.Call (.Name (b2N b) p) [a, a2] [] pos) (RdE X.K B fun r => (f r).bind fun x r1 => (g r1).bind fun y r2 =>
      match deref r2 x, deref r2 y with
      | some u, some v => .of ((b2 b u v).map .d) r2
      | _, _ => .stuck) := by
  have h1 : CallR X (.builtin (b2N b)) (rB2 X.K b) := by
    have := cr_b2 hcm b
    cases b <;> exact this
  have hn : (b2N b : Str) ≠ "__name__" := by cases b <;> decide
  have hd : ((b2N b : Str) == ("__debug__" : Str)) = false := by cases b <;> decide
  refine PE.imp (pe_callB h1 hg hm (boot_b2 b) (pa_cons ha (pa_cons hb pa_nil (star_cons hp2)) (star_cons hp1)) hn hd (star_cons hp1) (star_any (by simp [hp2]))) fun σ H Q ⟨F, r, s, tv, r', e, k⟩ => ?_
  obtain ⟨x, r1, e1, e⟩ := bind_inv e
  obtain ⟨y, r2, e2, e⟩ := bind_inv e
  refine ⟨F, r, s, x, r1, e1, fun xv F1 H1 p1 t1 => ⟨F1, r1, p1.st, y, r2, e2, fun yv F2 H2 p2 t2 => ?_⟩⟩
  have t1' := t1.keep p2 (p1.ne s)
  split at e
  · rename_i u v z1 z2
    obtain ⟨e5, rfl⟩ := of_inv e
    rw [Option.map_eq_some_iff] at e5
    obtain ⟨w, e3, rfl⟩ := e5
    exact ⟨F2, xv, yv, u, v, w, rfl, p2.st.sub, deref_rq p2.st t1' z1, deref_rq p2.st t2 z2, e3, fun z hz => k z F2 H2 (p1.trans p2) hz⟩
  · cases e
end
end Ev

end
section
set_option linter.all false
set_option maxHeartbeats 2000000
/-! Calls of the text's own defs. -/
namespace Ev
open PySem PySem.Spec PyProof.Rows L2
/-- the arguments at a def's entry -/
inductive ArgsR (K : Fg) (F H : Hp) : List V → List Sl → Prop
  | nil : ArgsR K F H [] []
  | v {x : V} {d : D} {vs : List V} {ss : List Sl} : Rp K F x d → ArgsR K F H vs ss → ArgsR K F H (x :: vs) (.val d :: ss)
  | l {a : Addr} {o : HO} {d : D} {vs : List V} {ss : List Sl} : H a = some o → F a = none → ObR K F o d → ArgsR K F H vs ss → ArgsR K F H (.ref a :: vs) (.bor d :: ss)
/-- the lent objects' places, in order -/
def lentA : List V → List Sl → List Addr
  | .ref a :: vs, .bor _ :: ss => a :: lentA vs ss
  | _ :: vs, _ :: ss => lentA vs ss
  | _, _ => []
inductive OutsR (K : Fg) (F H : Hp) : List Addr → List D → Prop
  | nil : OutsR K F H [] []
  | cons {a : Addr} {o : HO} {d : D} {l : List Addr} {ds : List D} : H a = some o → F a = none → ObR K F o d → OutsR K F H l ds → OutsR K F H (a :: l) (d :: ds)
/-- what stands behind a call -/
structure CallP (K : Fg) (tl : List (Addr × Str)) (F H : Hp) (ls : List Addr) (nw : Bool) (v : D) (outs : List D) (x : V) (F' H' : Hp) : Prop where
  sub : Sub F' H'
  nt : ∀ a ps, F' a ≠ some (.tbl ps)
  mono : Sub F F'
  frame : Kp (· ∈ ls) H H'
  tb : LamX.Tabs tl H'
  dom : ∀ a, nT H a ≠ none → nT H' a ≠ none
  fr : ∀ a, F' a ≠ none → F a ≠ none ∨ NT H a
  value : TvR K H [] F' H' (if nw = true then .f v else .d v) x
  outs : OutsR K F' H' ls outs
/-- a def's promise: what the evaluator says -/
def spOf (K : Fg) (mg : Str → Option Value) (tl : List (Addr × Str)) (ex : Bool) (cf : List Sl → CR) : Sp := fun vs H Q E => ∃ F ss, Sub F H ∧ ArgsR K F H vs ss ∧ (lentA vs ss).Nodup ∧ (LamX.Tabs tl H ∧ ∀ a ps, F a ≠ some (.tbl ps)) ∧
  ((∃ fr v outs, cf ss = .ok fr v outs ∧ ∀ x F' H', CallP K tl F H (lentA vs ss) fr v outs x F' H' → Q x H') ∨
    (ex = true ∧ ∃ c d, cf ss = .exc c d ∧ lentA vs ss = [] ∧ ∀ cls dd F' H', mg c = some cls → CallP K tl F H [] false .none [] .non F' H' → E cls dd H'))
/-- nothing is let out of a call where nothing may be -/
def QuietX (CX : CXT) : Prop := ∀ l H s e s', ¬ CX l H s (fun _ _ _ => False) e s'
theorem quiet0 : QuietX L2.CX0 := fun _ _ _ _ _ h => h
theorem quietX (P : Program) (w : World) : QuietX (L2.CX P w) := fun _ _ _ _ _ ⟨_, _, _, _, _, _, _, _, _, _, _, _, z⟩ => z
/-- arguments as they are made -/
inductive ArL (K : Fg) (F : Hp) (σ : L2.St) : List V → List Ar → Prop
  | nil : ArL K F σ [] []
  | v {x : V} {d : D} {vs : List V} {as : List Ar} : Rp K F x d → ArL K F σ vs as → ArL K F σ (x :: vs) (.v d :: as)
  | l {x : V} {i : Nat} {vs : List V} {as : List Ar} : σ[i]? = some (some x) → ArL K F σ vs as → ArL K F σ (x :: vs) (.l i :: as)
theorem ArL.mono {K : Fg} {F G : Hp} {σ : L2.St} (s : Sub F G) : ∀ {vs : List V} {as : List Ar}, ArL K F σ vs as → ArL K G σ vs as
  | _, _, .nil => .nil
  | _, _, .v h r => .v (h.mono s) (r.mono s)
  | _, _, .l h r => .l h (r.mono s)
def adr (σ : L2.St) (i : Nat) : Option Addr := match σ[i]? with
  | some (some (.ref a)) => some a
  | _ => none
theorem adr_of {σ : L2.St} {i : Nat} {a : Addr} (h : σ[i]? = some (some (.ref a))) : adr σ i = some a := by
  unfold adr
  rw [h]
def RdR (K : Fg) (B : Bs) (g : Env → Res (List Ar)) : TA := fun σ H Q => ∃ F r, StR K B F H σ r ∧ ∃ t r', g r = .ok t r' ∧ ∀ xs F' H', Post K B σ r F H r' F' H' → ArL K F' σ xs t → Q xs H'
theorem mutAt_inv {r : Env} {i : Nat} {d : D} (h : mutAt r i = some d) : r[i]? = some (.own d) ∨ r[i]? = some (.bor d) := by
  unfold mutAt at h
  split at h
  · cases h; left; assumption
  · cases h; right; assumption
  · cases h
section
variable {K : Fg} {B : Bs} {F H : Hp} {σ : L2.St} {r : Env}
/-- the arguments, read in the caller's state -/
theorem args_of (s : StR K B F H σ r) : ∀ {vs : List V} {as : List Ar} {ss : List Sl}, ArL K F σ vs as → argsS r as = some ss → ArgsR K F H vs ss ∧ (∀ a, a ∈ lentA vs ss ↔ ∃ i, i ∈ lends as ∧ σ[i]? = some (some (.ref a))) ∧
      (lentA vs ss).map some = (lends as).map (adr σ) ∧ ∀ i ∈ lends as, ∃ d, r[i]? = some (.own d) ∨ r[i]? = some (.bor d)
  | _, _, _, .nil, e => by
    cases e
    exact ⟨.nil, fun a => by simp [lentA, lends], rfl, fun i h => nomatch h⟩
  | _, _, _, .v (x := x) (d := d) (vs := vs) (as := as) h rest, e => by
    unfold argsS at e
    rw [Option.bind_eq_some_iff] at e
    obtain ⟨s1, e1, e⟩ := e
    rw [Option.map_eq_some_iff] at e
    obtain ⟨ss, e2, rfl⟩ := e
    cases e1
    obtain ⟨h1, h2, h3, h4⟩ := args_of s rest e2
    have el : lentA (x :: vs) (.val d :: ss) = lentA vs ss := by cases x <;> rfl
    refine ⟨.v h h1, fun a => ?_, ?_, h4⟩
    · rw [el]; exact h2 a
    · rw [el]; exact h3
  | _, _, _, .l (x := x) (i := i) (vs := vs) (as := as) h rest, e => by
    unfold argsS at e
    rw [Option.bind_eq_some_iff] at e
    obtain ⟨s1, e1, e⟩ := e
    rw [Option.map_eq_some_iff] at e
    obtain ⟨ss, e2, rfl⟩ := e
    unfold argS at e1
    rw [Option.map_eq_some_iff] at e1
    obtain ⟨d, e1, rfl⟩ := e1
    have hr := mutAt_inv e1
    obtain ⟨a, o, q1, q2, q3, q4⟩ := s.obj i d hr
    rw [h] at q1
    cases q1
    obtain ⟨h1, h2, h3, h4⟩ := args_of s rest e2
    refine ⟨.l q2 q3 q4 h1, fun b => ?_, ?_, fun j hj => ?_⟩
    · show b ∈ a :: lentA vs ss ↔ ∃ j, j ∈ i :: lends as ∧ _
      rw [List.mem_cons, h2 b]
      constructor
      · rintro (rfl | ⟨j, hj, e⟩)
        · exact ⟨i, List.mem_cons_self, h⟩
        · exact ⟨j, List.mem_cons_of_mem _ hj, e⟩
      · rintro ⟨j, hj, e⟩
        rcases List.mem_cons.mp hj with rfl | hj
        · left
          rw [h] at e
          cases e
          rfl
        · exact .inr ⟨j, hj, e⟩
    · show some a :: (lentA vs ss).map some = adr σ i :: (lends as).map (adr σ)
      rw [h3, adr_of h]
    · rcases List.mem_cons.mp hj with rfl | hj
      · exact ⟨d, hr⟩
      · exact h4 j hj
theorem lent_nodup (s : StR K B F H σ r) {vs : List V} {as : List Ar} {ss : List Sl} (h : ArL K F σ vs as) (e : argsS r as = some ss) (n : (lends as).Nodup) : (lentA vs ss).Nodup := by
  obtain ⟨_, _, h3, h4⟩ := args_of s h e
  have inj : ∀ i ∈ lends as, ∀ j ∈ lends as, adr σ i = adr σ j → i = j := fun i hi j hj q => by
    obtain ⟨d, hd⟩ := h4 i hi
    obtain ⟨d2, hd2⟩ := h4 j hj
    obtain ⟨a, o, q1, _⟩ := s.obj i d hd
    obtain ⟨a2, o2, q2, _⟩ := s.obj j d2 hd2
    rw [adr_of q1, adr_of q2] at q
    have qa : a = a2 := Option.some.inj q
    subst qa
    exact s.inj i j d d2 a hd hd2 q1 q2
  have nm : ((lentA vs ss).map some).Nodup := by
    rw [h3]
    unfold List.Nodup
    rw [List.pairwise_map]
    exact List.Pairwise.imp_of_mem (fun hi hj ne q => ne (inj _ hi _ hj q)) n
  unfold List.Nodup at nm
  rw [List.pairwise_map] at nm
  exact nm.imp fun ne q => ne (congrArg some q)
end
theorem setAt_get {r : Env} {i j : Nat} {d : D} {sl : Sl} (h : (setAt r i d)[j]? = some sl) : (j = i ∧ ((r[i]? ≠ none ∧ ∃ c, r[i]? = some (.own c) ∧ sl = .own d) ∨ ∃ c, r[i]? = some (.bor c) ∧ sl = .bor d)) ∨ ((j ≠ i ∨ mutAt r i = none) ∧ r[j]? = some sl) := by
  unfold setAt at h
  split at h
  · rename_i c hc
    rcases getset h with ⟨q, e⟩ | ⟨q, e⟩
    · exact .inl ⟨q, .inl ⟨by rw [hc]; simp, c, hc, e⟩⟩
    · exact .inr ⟨.inl q, e⟩
  · rename_i c hc
    rcases getset h with ⟨q, e⟩ | ⟨q, e⟩
    · exact .inl ⟨q, .inr ⟨c, hc, e⟩⟩
    · exact .inr ⟨.inl q, e⟩
  · rename_i n1 n2
    refine .inr ⟨.inr ?_, h⟩
    unfold mutAt
    split
    · rename_i d' q; exact absurd q (n1 d')
    · rename_i d' q; exact absurd q (n2 d')
    · rfl
theorem setAt_len {r : Env} {i : Nat} {d : D} : (setAt r i d).length = r.length := by
  unfold setAt
  split <;> simp
/-- a slot's object is another one now -/
theorem set_st {K : Fg} {B : Bs} {F H : Hp} {σ : L2.St} {r : Env} {i : Nat} {c d : D} {a : Addr} {o : HO} (s : StR K B F H σ r) (hr : r[i]? = some (.own c) ∨ r[i]? = some (.bor c)) (hs : σ[i]? = some (some (.ref a))) (ho : ObR K F o d) :
    StR K B F (upd H a o) σ (setAt r i d) where
  sub := fun b u q => by
    obtain ⟨a', o', e1, e2, e3, _⟩ := s.obj i c hr
    rw [hs] at e1
    cases e1
    rw [upd_ne (ne_of_none q e3)]
    exact s.sub b u q
  dom := s.dom.put (s.pl a ⟨i, c, hr, hs⟩)
  len := by rw [setAt_len]; exact s.len
  val := fun j e q => by
    rcases setAt_get q with ⟨_, ⟨_, _, _, z⟩ | ⟨_, _, z⟩⟩ | ⟨_, q⟩
    · cases z
    · cases z
    · exact s.val j e q
  obj := fun j e q => by
    obtain ⟨a', o', e1, e2, e3, e4⟩ := s.obj i c hr
    rw [hs] at e1
    cases e1
    have key : (j = i ∧ e = d) ∨ (j ≠ i ∧ (r[j]? = some (.own e) ∨ r[j]? = some (.bor e))) := by
      have nm : mutAt r i ≠ none := by
        unfold mutAt
        rcases hr with z | z <;> rw [z] <;> simp
      rcases q with q | q
      · rcases setAt_get q with ⟨z, ⟨_, _, _, w⟩ | ⟨_, _, w⟩⟩ | ⟨z, q⟩
        · cases w; exact .inl ⟨z, rfl⟩
        · cases w
        · rcases z with z | z
          · exact .inr ⟨z, .inl q⟩
          · exact absurd z nm
      · rcases setAt_get q with ⟨z, ⟨_, _, _, w⟩ | ⟨_, _, w⟩⟩ | ⟨z, q⟩
        · cases w
        · cases w; exact .inl ⟨z, rfl⟩
        · rcases z with z | z
          · exact .inr ⟨z, .inr q⟩
          · exact absurd z nm
    rcases key with ⟨rfl, rfl⟩ | ⟨z, q⟩
    · exact ⟨a, o, hs, upd_same, e3, ho⟩
    · obtain ⟨b, u, y1, y2, y3, y4⟩ := s.obj j e q
      refine ⟨b, u, y1, ?_, y3, y4⟩
      rw [upd_ne (fun w => by subst w; exact z (s.inj j i e c b q hr y1 hs))]
      exact y2
  new := fun j e b q w => by
    rcases setAt_get q with ⟨z, ⟨_, c', hc, _⟩ | ⟨_, _, w'⟩⟩ | ⟨_, q⟩
    · subst z
      exact s.new j c' b hc w
    · cases w'
    · exact s.new j e b q w
  lnt := fun j e b q w => by
    rcases setAt_get q with ⟨z, ⟨_, c', hc, w'⟩ | ⟨c', hc, w'⟩⟩ | ⟨_, q⟩
    · cases w'
    · subst z
      exact s.lnt j c' b hc w
    · exact s.lnt j e b q w
  inj := fun j k e e' b q1 q2 w1 w2 => by
    have f : ∀ {j : Nat} {e : D}, ((setAt r i d)[j]? = some (.own e) ∨ (setAt r i d)[j]? = some (.bor e)) → ∃ e', (r[j]? = some (.own e') ∨ r[j]? = some (.bor e')) := fun q => by
      rcases q with q | q
      · rcases setAt_get q with ⟨z, ⟨_, c', hc, _⟩ | ⟨c', hc, _⟩⟩ | ⟨_, q⟩
        · subst z; exact ⟨c', .inl hc⟩
        · subst z; exact ⟨c', .inr hc⟩
        · exact ⟨_, .inl q⟩
      · rcases setAt_get q with ⟨z, ⟨_, c', hc, _⟩ | ⟨c', hc, _⟩⟩ | ⟨_, q⟩
        · subst z; exact ⟨c', .inl hc⟩
        · subst z; exact ⟨c', .inr hc⟩
        · exact ⟨_, .inr q⟩
    obtain ⟨u1, f1⟩ := f q1
    obtain ⟨u2, f2⟩ := f q2
    exact s.inj j k u1 u2 b f1 f2 w1 w2
  pin := fun j q => by
    rcases setAt_get q with ⟨z, ⟨_, c', hc, w'⟩ | ⟨c', hc, w'⟩⟩ | ⟨_, q⟩
    · cases w'
    · cases w'
    · exact s.pin j q
theorem own_setAt {σ : L2.St} {r : Env} {i : Nat} {d : D} {a : Addr} (h : Own σ (setAt r i d) a) : Own σ r a := by
  obtain ⟨j, e, q, w⟩ := h
  rcases q with q | q
  · rcases setAt_get q with ⟨z, ⟨_, c', hc, _⟩ | ⟨c', hc, _⟩⟩ | ⟨_, q⟩
    · subst z; exact ⟨j, c', .inl hc, w⟩
    · subst z; exact ⟨j, c', .inr hc, w⟩
    · exact ⟨j, e, .inl q, w⟩
  · rcases setAt_get q with ⟨z, ⟨_, c', hc, _⟩ | ⟨c', hc, _⟩⟩ | ⟨_, q⟩
    · subst z; exact ⟨j, c', .inl hc, w⟩
    · subst z; exact ⟨j, c', .inr hc, w⟩
    · exact ⟨j, e, .inr q, w⟩
end Ev

end
section
set_option linter.all false
set_option maxHeartbeats 2000000
namespace Ev
open PySem PySem.Spec PyProof.Rows L2
def Mu (r : Env) (i : Nat) : Prop := ∃ d, r[i]? = some (.own d) ∨ r[i]? = some (.bor d)
theorem setAt_ne {r : Env} {i j : Nat} {d : D} (h : j ≠ i) : (setAt r i d)[j]? = r[j]? := by
  unfold setAt
  split
  · rw [List.getElem?_set_ne (fun z => h z.symm)]
  · rw [List.getElem?_set_ne (fun z => h z.symm)]
  · rfl
theorem setAt_own {r : Env} {i : Nat} {c d : D} (h : r[i]? = some (.own c)) : (setAt r i d)[i]? = some (.own d) := by
  unfold setAt
  rw [h]
  simp only
  rw [List.getElem?_set_self]
  have := List.getElem?_eq_some_iff.mp h
  exact this.1
theorem setAt_bor {r : Env} {i : Nat} {c d : D} (h : r[i]? = some (.bor c)) : (setAt r i d)[i]? = some (.bor d) := by
  unfold setAt
  rw [h]
  simp only
  rw [List.getElem?_set_self]
  have := List.getElem?_eq_some_iff.mp h
  exact this.1
theorem outsE_get : ∀ {L : List Nat} {outs : List D} {r r2 : Env}, outsE L outs r = some r2 → L.Nodup → (∀ i ∈ L, Mu r i) →
    L.length = outs.length ∧ r2.length = r.length ∧ (∀ j, j ∉ L → r2[j]? = r[j]?) ∧ ∀ (k : Nat) (i : Nat), L[k]? = some i → ∃ d, outs[k]? = some d ∧ (((∃ c, r[i]? = some (.own c)) ∧ r2[i]? = some (.own d)) ∨ ((∃ c, r[i]? = some (.bor c)) ∧ r2[i]? = some (.bor d)))
  | [], [], r, r2, e, _, _ => by
    cases e
    exact ⟨rfl, rfl, fun _ _ => rfl, fun k i h => by simp at h⟩
  | [], _ :: _, r, r2, e, _, _ => by cases e
  | i :: L, [], r, r2, e, _, _ => by cases e
  | i :: L, d :: ds, r, r2, e, n, m => by
    have n1 := List.nodup_cons.mp n
    obtain ⟨h1, h2, h3, h4⟩ := outsE_get (L := L) (outs := ds) (r := setAt r i d) e n1.2 (fun j hj => by
      have ne : j ≠ i := fun z => n1.1 (z ▸ hj)
      obtain ⟨c, hc⟩ := m j (List.mem_cons_of_mem _ hj)
      exact ⟨c, by rw [setAt_ne ne]; exact hc⟩)
    refine ⟨by rw [List.length_cons, List.length_cons, h1], by rw [h2, setAt_len], fun j hj => ?_, fun k j hk => ?_⟩
    · rw [List.mem_cons, not_or] at hj
      rw [h3 j hj.2, setAt_ne hj.1]
    · cases k with
      | zero =>
        simp only [List.getElem?_cons_zero, Option.some.injEq] at hk
        subst hk
        refine ⟨d, by simp, ?_⟩
        rw [h3 i n1.1]
        obtain ⟨c, hc⟩ := m i List.mem_cons_self
        rcases hc with hc | hc
        · exact .inl ⟨⟨c, hc⟩, setAt_own hc⟩
        · exact .inr ⟨⟨c, hc⟩, setAt_bor hc⟩
      | succ k =>
        simp only [List.getElem?_cons_succ] at hk
        have hm : j ∈ L := List.mem_of_getElem? hk
        have ne : j ≠ i := fun z => n1.1 (z ▸ hm)
        obtain ⟨d', q1, q2⟩ := h4 k j hk
        rw [setAt_ne ne] at q2
        exact ⟨d', by simpa using q1, q2⟩
theorem OutsR.get {K : Fg} {F H : Hp} : ∀ {ls : List Addr} {ds : List D}, OutsR K F H ls ds → ∀ (k : Nat) (a : Addr) (d : D), ls[k]? = some a → ds[k]? = some d → ∃ o, H a = some o ∧ F a = none ∧ ObR K F o d
  | _, _, .nil, k, a, d, h, _ => by simp at h
  | _, _, .cons h1 h2 h3 r, 0, a, d, h, e => by
    simp only [List.getElem?_cons_zero, Option.some.injEq] at h e
    subst h e
    exact ⟨_, h1, h2, h3⟩
  | _, _, .cons h1 h2 h3 r, k + 1, a, d, h, e => by
    simp only [List.getElem?_cons_succ] at h e
    exact r.get k a d h e
/-- the caller's state behind a call -/
theorem call_post {K : Fg} {B : Bs} {F H F' H' : Hp} {σ : L2.St} {r r2 : Env} {ls : List Addr} {L : List Nat} {nw : Bool} {v : D} {outs : List D} {x : V} (s : StR K B F H σ r) (hL : ls.map some = L.map (adr σ)) (n : L.Nodup) (m : ∀ i ∈ L, Mu r i)
    (p : CallP K B.t F H ls nw v outs x F' H') (e : outsE L outs r = some r2) : Post K B σ r F H r2 F' H' ∧ TvR K H σ F' H' (if nw = true then .f v else .d v) x := by
  obtain ⟨h1, h2, h3, h4⟩ := outsE_get e n m
  have lsk : ∀ (k i : Nat), L[k]? = some i → ∃ a, ls[k]? = some a ∧ σ[i]? = some (some (.ref a)) := fun k i hk => by
    have q : (ls.map some)[k]? = (L.map (adr σ))[k]? := by rw [hL]
    rw [List.getElem?_map, List.getElem?_map, hk] at q
    obtain ⟨d, hd⟩ := m i (List.mem_of_getElem? hk)
    obtain ⟨a, o, q1, _⟩ := s.obj i d hd
    rw [Option.map_some, adr_of q1] at q
    rw [Option.map_eq_some_iff] at q
    obtain ⟨a', q2, q3⟩ := q
    cases q3
    exact ⟨a, q2, q1⟩
  have lsm : ∀ a ∈ ls, ∃ i ∈ L, σ[i]? = some (some (.ref a)) := fun a ha => by
    obtain ⟨k, hk⟩ := List.getElem?_of_mem ha
    have q : (ls.map some)[k]? = (L.map (adr σ))[k]? := by rw [hL]
    rw [List.getElem?_map, List.getElem?_map, hk, Option.map_some] at q
    have q := q.symm
    rw [Option.map_eq_some_iff] at q
    obtain ⟨i, q1, q2⟩ := q
    obtain ⟨a', q3, q4⟩ := lsk k i q1
    rw [hk] at q3
    cases q3
    exact ⟨i, List.mem_of_getElem? q1, q4⟩
  have back : ∀ {j : Nat} {d : D}, (r2[j]? = some (.own d) ∨ r2[j]? = some (.bor d)) → (j ∈ L ∧ ∃ k, L[k]? = some j ∧ outs[k]? = some d) ∨ (j ∉ L ∧ (r[j]? = some (.own d) ∨ r[j]? = some (.bor d))) := fun {j d} q => by
    by_cases hj : j ∈ L
    · obtain ⟨k, hk⟩ := List.getElem?_of_mem hj
      obtain ⟨d', q1, q2⟩ := h4 k j hk
      refine .inl ⟨hj, k, hk, ?_⟩
      rcases q2 with ⟨_, q2⟩ | ⟨_, q2⟩
      · rw [q2] at q
        rcases q with q | q
        · cases q; exact q1
        · cases q
      · rw [q2] at q
        rcases q with q | q
        · cases q
        · cases q; exact q1
    · rw [h3 j hj] at q
      exact .inr ⟨hj, q⟩
  have mu : ∀ {j : Nat} {d : D}, (r2[j]? = some (.own d) ∨ r2[j]? = some (.bor d)) → ∃ c, r[j]? = some (.own c) ∨ r[j]? = some (.bor c) := fun {j d} q => by
    rcases back q with ⟨hj, _⟩ | ⟨_, q⟩
    · exact m j hj
    · exact ⟨_, q⟩
  have own : ∀ a, Own σ r2 a → Own σ r a := fun a ⟨j, d, q, w⟩ => by
    obtain ⟨c, hc⟩ := mu q
    exact ⟨j, c, hc, w⟩
  have keepO : ∀ {j : Nat} {d : D}, j ∉ L → (r[j]? = some (.own d) ∨ r[j]? = some (.bor d)) → ∃ a o, σ[j]? = some (some (.ref a)) ∧ H' a = some o ∧ F' a = none ∧ ObR K F' o d := fun {j d} hj q => by
    obtain ⟨a, o, e1, e2, e3, e4⟩ := s.obj j d q
    have na : a ∉ ls := fun z => by
      obtain ⟨i, hi, w⟩ := lsm a z
      obtain ⟨c, hc⟩ := m i hi
      exact hj (s.inj j i d c a q hc e1 w ▸ hi)
    refine ⟨a, o, e1, p.frame.at_ a o e2 na (pl_ob e4), ?_, e4.mono p.mono⟩
    cases z : F' a with
    | none => rfl
    | some u =>
      rcases p.fr a (by rw [z]; simp) with w | w
      · exact absurd e3 w
      · exact (w.ob e2 e4).elim
  refine ⟨⟨⟨p.sub, s.dom.go p.dom p.tb p.nt, by rw [h2]; exact s.len, fun j d q => ?_, fun j d q => ?_, fun j d a q w => ?_, fun j d a q w => ?_, fun i j d e' a q1 q2 w1 w2 => ?_, fun j q => ?_⟩, p.mono, p.frame.less fun a z => .inl ?_, p.dom, fun a q => ?_, own⟩, ?_⟩
  · by_cases hj : j ∈ L
    · obtain ⟨k, hk⟩ := List.getElem?_of_mem hj
      obtain ⟨d', q1, q2⟩ := h4 k j hk
      rcases q2 with ⟨_, q2⟩ | ⟨_, q2⟩ <;> (rw [q2] at q; cases q)
    · rw [h3 j hj] at q
      obtain ⟨y, e1, e2⟩ := s.val j d q
      exact ⟨y, e1, e2.mono p.mono⟩
  · rcases back q with ⟨hj, k, hk, ho⟩ | ⟨hj, q⟩
    · obtain ⟨a, q1, q2⟩ := lsk k j hk
      obtain ⟨o, e1, e2, e3⟩ := p.outs.get k a d q1 ho
      exact ⟨a, o, q2, e1, e2, e3⟩
    · exact keepO hj q
  · by_cases hj : j ∈ L
    · obtain ⟨k, hk⟩ := List.getElem?_of_mem hj
      obtain ⟨d', q1, q2⟩ := h4 k j hk
      rcases q2 with ⟨⟨c, hc⟩, q2⟩ | ⟨_, q2⟩
      · exact s.new j c a hc w
      · rw [q2] at q; cases q
    · rw [h3 j hj] at q
      exact s.new j d a q w
  · by_cases hj : j ∈ L
    · obtain ⟨k, hk⟩ := List.getElem?_of_mem hj
      obtain ⟨d', q1, q2⟩ := h4 k j hk
      rcases q2 with ⟨_, q2⟩ | ⟨⟨c, hc⟩, q2⟩
      · rw [q2] at q; cases q
      · exact s.lnt j c a hc w
    · rw [h3 j hj] at q
      exact s.lnt j d a q w
  · obtain ⟨c1, f1⟩ := mu q1
    obtain ⟨c2, f2⟩ := mu q2
    exact s.inj i j c1 c2 a f1 f2 w1 w2
  · by_cases hj : j ∈ L
    · obtain ⟨k, hk⟩ := List.getElem?_of_mem hj
      obtain ⟨d', q1, q2⟩ := h4 k j hk
      rcases q2 with ⟨_, q2⟩ | ⟨_, q2⟩ <;> (rw [q2] at q; cases q)
    · rw [h3 j hj] at q
      exact s.pin j q
  · obtain ⟨i, hi, w⟩ := lsm a z
    obtain ⟨c, hc⟩ := m i hi
    exact ⟨i, c, hc, w⟩
  · rcases p.fr a q with w | w
    · exact .inl w
    · exact .inr (.inl w)
  · have tv := p.value
    cases nw with
    | true => exact tv
    | false => exact tv
section
variable {X : Cx} {B : Bs} {e a b c : Expr} {pos : Pos} {f g h : Env → Res TV}
theorem rr_nil : PA X [] (RdR X.K B fun r => .ok [] r) := PA.imp pa_nil fun σ H Q ⟨F, r, s, t, r', e, k⟩ => by
  cases e
  exact k [] F H (Post.refl s) .nil
theorem rr_cons {es : List Expr} {fa : Env → Res (List Ar)} (ha : PE X a (RdE X.K B f)) (hr : PA X es (RdR X.K B fa)) (hs : starEach (a :: es) X.env = (false, eval a X.env) :: starEach es X.env) :
    PA X (a :: es) (RdR X.K B fun r => (f r).bind fun x r1 => (solidR r1 x).bind fun v r2 => (fa r2).bind fun vs r3 => .ok (.v v :: vs) r3) := by
  refine PA.imp (pa_cons ha hr hs) fun σ H Q ⟨F, r, s, t, r', e, k⟩ => ?_
  obtain ⟨x, r1, e1, e⟩ := bind_inv e
  obtain ⟨v, r2, e2, e⟩ := bind_inv e
  obtain ⟨vs, r3, e3, e⟩ := bind_inv e
  cases e
  refine ⟨F, r, s, x, r1, e1, fun xv F1 H1 p1 t1 => ?_⟩
  obtain ⟨F2, p2, h2, m2⟩ := solid_post s p1 t1 (solidR_ok e2)
  refine ⟨F2, r2, p2.st, vs, r', e3, fun xs F3 H3 p3 h3 => ?_⟩
  exact k (xv :: xs) F3 H3 (p2.trans p3) (.v (h2.mono p3.mono) h3)
theorem rr_lend {es : List Expr} {fa : Env → Res (List Ar)} {i : Nat} {x : Str} {p : Pos} (hN : X.N[i]? = some x) (hv : Vis X.env.scope x) (hd : (x == ("__debug__" : Str)) = false) (hcd : (x == ("__classdict__" : Str)) = false)
    (hr : PA X es (RdR X.K B fa)) :
    PA X (.Name x p :: es) (RdR X.K B fun r => match mutAt r i with
    | some _ => (fa r).bind fun vs r1 => .ok (.l i :: vs) r1
    | none => .stuck) := by
  refine PA.imp (pa_cons (pe_var hN hv hd hcd) hr (star_cons rfl)) fun σ H Q ⟨F, r, s, t, r', e, k⟩ => ?_
  dsimp only at e
  split at e
  · rename_i d hm
    obtain ⟨vs, r3, e3, e⟩ := bind_inv e
    cases e
    obtain ⟨a, o, q1, _⟩ := s.obj i d (mutAt_inv hm)
    refine ⟨_, q1, F, r, s, vs, r', e3, fun xs F3 H3 p3 h3 => ?_⟩
    exact k (_ :: xs) F3 H3 p3 (.l q1 h3)
  · cases e
theorem rd_call {CX : CXT} {lv : Nat} {ad : Addr} {fd : FuncData} {ps : List Str} {cf : List Sl → CR} {x : Str} {p : Pos} {es : List Expr} {fa : Env → Res (List Ar)} {ex : Bool} (Fn : FnOk X.prog X.w X.K X.mg X.base CX lv ad fd ps (spOf X.K X.mg B.t ex cf)) (hr : Room lv X.A)
    (hg : Gl X x) (hm : X.mg x = some (.ref ad)) (hk : PySem.W.keepIn X.K (.ref ad) = true) (hb : Binds X.K fd ps []) (hx : Passes CX X (fun _ _ _ => False)) (hpl : es.all plainE = true) (hdb : (x == ("__debug__" : Str)) = false) (ha : PA X es (RdR X.K B fa)) (h0 : es = [] → fa = fun r => .ok [] r) (call : Nat → List Sl → CR) (fi : Nat) (hc : call fi = cf) :
    PE X (.Call (.Name x p) es [] pos) (RdE X.K B fun r => (fa r).bind fun as r1 => doCall call fi as r1) := by
  have key : ∀ {σ : L2.St} {H : Hp} {Q : VK}, RdE X.K B (fun r => (fa r).bind fun as r1 => doCall call fi as r1) σ H Q → tCall (spOf X.K X.mg B.t ex cf) [] (fun _ _ _ => False) (RdR X.K B fa) σ H Q := fun {σ H Q} ⟨F, r, s, t, r', e, k⟩ => by
    obtain ⟨as, r1, e1, e⟩ := bind_inv e
    refine ⟨F, r, s, as, r1, e1, fun xs F1 H1 p1 h1 => ?_⟩
    show spOf X.K X.mg B.t ex cf (xs ++ []) H1 Q _
    rw [List.append_nil]
    unfold doCall at e
    split at e
    · cases e
    · rename_i ss hss
      split at e
      · rename_i nd
        rw [hc] at e
        split at e
        · rename_i nw v outs hcf
          split at e
          · rename_i r2 ho
            cases e
            obtain ⟨a1, a2, a3, a4⟩ := args_of p1.st h1 hss
            refine ⟨F1, ss, p1.st.sub, a1, lent_nodup p1.st h1 hss nd, ⟨p1.st.dom.tb, p1.st.dom.nt⟩, .inl ⟨nw, v, outs, hcf, fun y F2 H2 cp => ?_⟩⟩
            obtain ⟨p2, t2⟩ := call_post p1.st a3 nd a4 cp ho
            exact k y F2 H2 (p1.trans p2) (t2.back p1.dom)
          · cases e
        · split at e <;> cases e
        · cases e
      · cases e
  cases es with
  | nil =>
    refine PE.imp (pe_call0 Fn hr hg hm hk hb .nil hx hdb) fun σ H Q q => ?_
    obtain ⟨F, r, s, t, r', e, k⟩ := key q
    rw [h0 rfl] at e
    cases e
    exact k [] F H (Post.refl s) .nil
  | cons e0 es =>
    rw [List.all_cons, Bool.and_eq_true] at hpl
    exact PE.imp (pe_call Fn hr hg hm hk hb .nil hx ha hdb (star_cons hpl.1) (star_any hpl.2)) fun σ H Q q => key q
end
end Ev

end
section
set_option linter.all false
set_option maxHeartbeats 2000000
namespace Ev
open PySem PySem.Spec PyProof.Rows L2
theorem RpL.getv {K : Fg} {F : Hp} : ∀ {v : List V} {d : List D}, RpL K F v d → ∀ (i : Nat) (y : V), v[i]? = some y → ∃ x, d[i]? = some x ∧ Rp K F y x
  | _, _, .nil, i, x, e => by simp at e
  | _, _, .cons h r, 0, x, e => by
    simp only [List.getElem?_cons_zero, Option.some.injEq] at e
    subst e
    exact ⟨_, by simp, h⟩
  | _, _, .cons h r, i + 1, x, e => by
    simp only [List.getElem?_cons_succ] at e
    obtain ⟨y, h1, h2⟩ := RpL.getv r i x e
    exact ⟨y, by simpa using h1, h2⟩
theorem wk_list {K : Fg} {F : Hp} {a : Addr} {xs : List V} {ds : List D} (h : F a = some (.lst xs)) (r : RpL K F xs ds) : WkD K F (Itl K a) ds where
  goes := fun i H hi sb => walk_list.goes i H (by rw [r.length]; exact hi) (SqL.of (sb _ _ h))
  stops := fun H sb => by
    have := (walk_list (K := K)).stops H (SqL.of (sb _ _ h))
    rw [r.length] at this
    exact this
  yields := fun i H x H' hi sb y => by
    obtain ⟨rfl, e⟩ := walk_list.yields i H x H' (by rw [r.length]; exact hi) (SqL.of (sb _ _ h)) y
    obtain ⟨d, e1, e2⟩ := r.getv i x e
    exact ⟨d, e1, .same e2⟩
theorem wk_tup {K : Fg} {F : Hp} {a : Addr} {xs : List V} {ds : List D} (h : SqT K F a xs) (r : RpL K F xs ds) : WkD K F (Itt K a) ds where
  goes := fun i H hi sb => walk_tup.goes i H (by rw [r.length]; exact hi) (sb.sqt h)
  stops := fun H sb => by
    have := (walk_tup (K := K)).stops H (sb.sqt h)
    rw [r.length] at this
    exact this
  yields := fun i H x H' hi sb y => by
    obtain ⟨rfl, e⟩ := walk_tup.yields i H x H' (by rw [r.length]; exact hi) (sb.sqt h) y
    obtain ⟨d, e1, e2⟩ := r.getv i x e
    exact ⟨d, e1, .same e2⟩
theorem wk_str {K : Fg} {F : Hp} {z : Str} : WkD K F (Its z) (z.cps.toList.map fun c => .str ⟨#[c]⟩) where
  goes := fun i H hi sb => walk_str.goes i H (by simpa using hi) trivial
  stops := fun H sb => by
    have := (walk_str (z := z)).stops H trivial
    simpa using this
  yields := fun i H x H' hi sb y => by
    obtain ⟨rfl, c, e, rfl⟩ := walk_str.yields i H x H' (by simpa using hi) trivial y
    exact ⟨.str ⟨#[c]⟩, by simp [e], .same (.str _)⟩
theorem rng_get : ∀ (n : Nat) (lo : Int) (i : Nat), i < n → (rng lo n)[i]? = some (.int (lo + i))
  | 0, _, _, h => absurd h (Nat.not_lt_zero _)
  | n + 1, lo, 0, _ => by simp [rng]
  | n + 1, lo, i + 1, h => by
    have := rng_get n (lo + 1) i (by omega)
    show (rng (lo + 1) n)[i]? = _
    rw [this]
    congr 2
    omega
theorem rng_len : ∀ (n : Nat) (lo : Int), (rng lo n).length = n
  | 0, _ => rfl
  | n + 1, lo => by
    show (rng (lo + 1) n).length + 1 = n + 1
    rw [rng_len]
theorem wk_rng {K : Fg} {F : Hp} {lo : Int} {n : Nat} : WkD K F (Itr lo n) (rng lo n) where
  goes := fun i H hi sb => walk_range.goes i H (by rw [rng_len] at hi; exact hi) trivial
  stops := fun H sb => by
    rw [rng_len]
    exact (walk_range (lo := lo) (n := n)).stops H trivial
  yields := fun i H x H' hi sb y => by
    rw [rng_len] at hi
    obtain ⟨rfl, rfl⟩ := walk_range.yields i H x H' hi trivial y
    exact ⟨_, rng_get n lo i hi, .same (.int _)⟩
theorem enumD_get : ∀ (xs : List D) (k i : Nat) (x : D), xs[i]? = some x → (enumD k xs)[i]? = some (.tuple [.int ((k + i : Nat) : Int), x])
  | [], k, i, x, h => by simp at h
  | y :: r, k, 0, x, h => by
    simp only [List.getElem?_cons_zero, Option.some.injEq] at h
    subst h
    simp [enumD]
  | y :: r, k, i + 1, x, h => by
    simp only [List.getElem?_cons_succ] at h
    have := enumD_get r (k + 1) i x h
    show (enumD (k + 1) r)[i]? = _
    rw [this]
    congr 4
    omega
theorem enumD_len : ∀ (xs : List D) (k : Nat), (enumD k xs).length = xs.length
  | [], _ => rfl
  | y :: r, k => by
    show (enumD (k + 1) r).length + 1 = r.length + 1
    rw [enumD_len]
theorem zipD_get : ∀ (xs ys : List D) (i : Nat) (x y : D), xs[i]? = some x → ys[i]? = some y → (zipD xs ys)[i]? = some (.tuple [x, y])
  | [], _, i, x, y, h, _ => by simp at h
  | _ :: _, [], i, x, y, _, h => by simp at h
  | a :: r, b :: q, 0, x, y, h, h2 => by
    simp only [List.getElem?_cons_zero, Option.some.injEq] at h h2
    subst h h2
    simp [zipD]
  | a :: r, b :: q, i + 1, x, y, h, h2 => by
    simp only [List.getElem?_cons_succ] at h h2
    exact zipD_get r q i x y h h2
theorem zipD_len : ∀ (xs ys : List D), (zipD xs ys).length = min xs.length ys.length
  | [], _ => by simp [zipD]
  | _ :: _, [] => by simp [zipD]
  | a :: r, b :: q => by
    show (zipD r q).length + 1 = _
    rw [zipD_len]
    simp only [List.length_cons]
    omega
theorem Rp.seqX {K : Fg} {F : Hp} {x : V} {v : D} {ds : List D} (h : Rp K F x v) (e : listOf v = some ds) : ∃ b a xs, x = .ref a ∧ RpL K F xs ds ∧ ∀ H, Sub F H → SqX K b H a xs := by
  unfold listOf at e
  split at e
  · cases e
    cases h with
    | lst h1 h2 => exact ⟨true, _, _, rfl, h2, fun H sb => SqL.of (sb _ _ h1)⟩
  · cases e
    cases h with
    | tup h1 h2 => exact ⟨false, _, _, rfl, h2, fun H sb => sb.sqt h1.sqt⟩
  · cases e
section
variable {X : Cx} {B : Bs} {e a b c tg : Expr} {pos : Pos} {f g h : Env → Res TV}
theorem ri_val (ha : PE X a (RdE X.K B f)) : PI X tg a (RdI X.K B fun r => (f r).bind fun x r1 => (solidR r1 x).bind fun v r2 => .of (itemsOf v) r2) := by
  refine PI.imp (PI.or (pi_list ha) (PI.or (pi_tup ha) (pi_str ha))) fun σ H R ⟨F, r, s, t, r', e, k⟩ => ?_
  obtain ⟨x, r1, e1, e⟩ := bind_inv e
  obtain ⟨v, r2, e2, e⟩ := bind_inv e
  obtain ⟨e, rfl⟩ := of_inv e
  have go : ∀ {xv : V} {F1 H1 : Hp}, Post X.K B σ r F H r1 F1 H1 → TvR X.K H σ F1 H1 x xv → ∃ F2, Post X.K B σ r F H r2 F2 H1 ∧ Rp X.K F2 xv v := fun {xv F1 H1} p1 t1 => by
    obtain ⟨F2, p2, h2, _⟩ := solid_post s p1 t1 (solidR_ok e2)
    exact ⟨F2, p2, h2⟩
  unfold itemsOf at e
  split at e
  · cases e
    refine .inl ⟨F, r, s, x, r1, e1, fun xv F1 H1 p1 t1 => ?_⟩
    obtain ⟨F2, p2, h2⟩ := go p1 t1
    cases h2 with
    | lst h3 h4 => exact ⟨_, rfl, ⟨_, SqL.of (p2.st.sub _ _ h3)⟩, k _ F2 H1 p2 (wk_list h3 h4)⟩
  · cases e
    refine .inr (.inl ⟨F, r, s, x, r1, e1, fun xv F1 H1 p1 t1 => ?_⟩)
    obtain ⟨F2, p2, h2⟩ := go p1 t1
    cases h2 with
    | tup h3 h4 => exact ⟨_, rfl, ⟨_, p2.st.sub.sqt h3.sqt⟩, k _ F2 H1 p2 (wk_tup h3.sqt h4)⟩
  · cases e
    refine .inr (.inr ⟨F, r, s, x, r1, e1, fun xv F1 H1 p1 t1 => ?_⟩)
    obtain ⟨F2, p2, h2⟩ := go p1 t1
    cases h2 with
    | str z => exact ⟨_, rfl, k _ F2 H1 p2 wk_str⟩
  · cases e
theorem small62_ok {j : Int} (h : small62 j = true) : -(2 ^ 62) ≤ j ∧ j < 2 ^ 62 := by
  unfold small62 P62 at h
  rw [Bool.and_eq_true, decide_eq_true_eq, decide_eq_true_eq] at h
  have e : (2 : Int) ^ 62 = 4611686018427387904 := by decide
  rw [e]
  omega
theorem ri_rg1 {p : Pos} (hg : Gl X "range") (hm : X.mg "range" = none) (hpl : plainE a = true) (ha : PE X a (RdE X.K B f)) : PI X tg (.Call (.Name "range" p) [a] [] pos) (RdI X.K B fun r => (f r).bind fun x r1 => match deref r1 x with
      | some (.int j) => if small62 j then .ok (rng 0 j.toNat) r1 else .stuck
      | _ => .stuck) := by
  refine PI.imp (pi_range1 hg hm (pa_cons ha pa_nil (star_cons hpl)) (star_cons hpl)) fun σ H R ⟨F, r, s, t, r', e, k⟩ => ?_
  obtain ⟨x, r1, e1, e⟩ := bind_inv e
  refine ⟨F, r, s, x, r1, e1, fun xv F1 H1 p1 t1 => ?_⟩
  split at e
  · rename_i j z
    split at e
    · rename_i w
      cases e
      have h := small62_ok w
      exact ⟨j, by rw [(deref_rq p1.st t1 z).int], h.1, h.2, k _ F1 H1 p1 wk_rng⟩
    · cases e
  · cases e
theorem ri_rg2 {p : Pos} (hg : Gl X "range") (hm : X.mg "range" = none) (hp1 : plainE a = true) (hp2 : plainE b = true) (ha : PE X a (RdE X.K B f)) (hb : PE X b (RdE X.K B g)) :
    PI X tg (.Call (.Name "range" p) [a, b] [] pos) (RdI X.K B fun r => (f r).bind fun x r1 => (g r1).bind fun y r2 => match deref r2 x, deref r2 y with
      | some (.int i), some (.int j) => if small62 i && small62 j then .ok (rng i (j - i).toNat) r2 else .stuck
      | _, _ => .stuck) := by
  refine PI.imp (pi_range2 hg hm (pa_cons ha (pa_cons hb pa_nil (star_cons hp2)) (star_cons hp1)) (by rw [star_cons hp1, star_cons hp2]; rfl) (star_cons hp2)) fun σ H R ⟨F, r, s, t, r', e, k⟩ => ?_
  obtain ⟨x, r1, e1, e⟩ := bind_inv e
  obtain ⟨y, r2, e2, e⟩ := bind_inv e
  refine ⟨F, r, s, x, r1, e1, fun xv F1 H1 p1 t1 => ⟨F1, r1, p1.st, y, r2, e2, fun yv F2 H2 p2 t2 => ?_⟩⟩
  have t1' := t1.keep p2 (p1.ne s)
  split at e
  · rename_i i j z1 z2
    split at e
    · rename_i w
      cases e
      rw [Bool.and_eq_true] at w
      have h1 := small62_ok w.1
      have h2 := small62_ok w.2
      exact ⟨i, j, by rw [(deref_rq p2.st t1' z1).int, (deref_rq p2.st t2 z2).int], ⟨h1.1, h1.2, h2.1, h2.2⟩, k _ F2 H2 (p1.trans p2) wk_rng⟩
    · cases e
  · cases e
theorem ri_enm {p tpos : Pos} {elts : List Expr} {kk : Nat} (hg : Gl X "enumerate") (hm : X.mg "enumerate" = none) (hpl : plainE a = true) (ha : PE X a (RdE X.K B f)) :
    PI X (.Tuple elts kk tpos) (.Call (.Name "enumerate" p) [a] [] pos) (RdI X.K B fun r => (f r).bind fun x r1 => (solidR r1 x).bind fun v r2 => match listOf v with
      | some xs => .ok (enumD 0 xs) r2
      | none => .stuck) := by
  refine PI.imp (pi_enumX hg hm (pa_cons ha pa_nil (star_cons hpl)) (star_cons hpl)) fun σ H R ⟨F, r, s, t, r', e, k⟩ => ?_
  obtain ⟨x, r1, e1, e⟩ := bind_inv e
  obtain ⟨v, r2, e2, e⟩ := bind_inv e
  refine ⟨F, r, s, x, r1, e1, fun xv F1 H1 p1 t1 => ?_⟩
  obtain ⟨F2, p2, h2, _⟩ := solid_post s p1 t1 (solidR_ok e2)
  split at e
  · rename_i ds z
    cases e
    obtain ⟨bb, ad, xs, rfl, rl, hS⟩ := h2.seqX z
    refine ⟨bb, ad, xs, rfl, hS H1 p2.st.sub, k _ F2 H1 p2 ⟨fun i H hi sb => ⟨hS H sb, ?_⟩, fun H sb => ⟨hS H sb, ?_⟩, fun i H y H' hi sb q => ?_⟩⟩
    · rw [enumD_len] at hi
      rw [rl.length]; exact hi
    · rw [enumD_len, rl.length]
    · obtain ⟨T, x', y', rfl, hT, rfl, rfl, hy⟩ := q
      obtain ⟨d, e3, e4⟩ := rl.getv i y' hy
      refine ⟨_, enumD_get ds 0 i d e3, .tup hT (.cons ?_ (.cons e4 .nil))⟩
      have z : ((0 + i : Nat) : Int) = ((i : Nat) : Int) := by omega
      rw [z]
      exact .int _
  · cases e
theorem ri_zip {p tpos : Pos} {elts : List Expr} {kk : Nat} (hg : Gl X "zip") (hm : X.mg "zip" = none) (hp1 : plainE a = true) (hp2 : plainE b = true) (ha : PE X a (RdE X.K B f)) (hb : PE X b (RdE X.K B g)) :
    PI X (.Tuple elts kk tpos) (.Call (.Name "zip" p) [a, b] [] pos) (RdI X.K B fun r => (f r).bind fun x r1 => (solidR r1 x).bind fun v r2 => (g r2).bind fun y r3 => (solidR r3 y).bind fun w r4 =>
      match listOf v, listOf w with
      | some xs, some ys => .ok (zipD xs ys) r4
      | _, _ => .stuck) := by
  refine PI.imp (pi_zipX hg hm (pa_cons ha (pa_cons hb pa_nil (star_cons hp2)) (star_cons hp1)) (star_cons hp1) (star_any (by simp [hp2]))) fun σ H R ⟨F, r, s, t, r', e, k⟩ => ?_
  obtain ⟨x, r1, e1, e⟩ := bind_inv e
  obtain ⟨v, r2, e2, e⟩ := bind_inv e
  obtain ⟨y, r3, e3, e⟩ := bind_inv e
  obtain ⟨w, r4, e4, e⟩ := bind_inv e
  refine ⟨F, r, s, x, r1, e1, fun xv F1 H1 p1 t1 => ?_⟩
  obtain ⟨F2, p2, h2, _⟩ := solid_post s p1 t1 (solidR_ok e2)
  refine ⟨F2, r2, p2.st, y, r3, e3, fun yv F3 H3 p3 t3 => ?_⟩
  obtain ⟨F4, p4, h4, _⟩ := solid_post p2.st p3 t3 (solidR_ok e4)
  split at e
  · rename_i ds es z1 z2
    cases e
    obtain ⟨b1, a1, xs, rfl, rl1, hS1⟩ := (h2.mono p4.mono).seqX z1
    obtain ⟨b2, a2, ys, rfl, rl2, hS2⟩ := h4.seqX z2
    refine ⟨b1, b2, a1, a2, xs, ys, rfl, hS1 _ p4.st.sub, hS2 _ p4.st.sub, k _ F4 H3 (p2.trans p4) ⟨fun i H hi sb => ⟨⟨hS1 H sb, hS2 H sb⟩, ?_⟩, fun H sb => ⟨⟨hS1 H sb, hS2 H sb⟩, ?_⟩, fun i H q H' hi sb q2 => ?_⟩⟩
    · rw [zipD_len] at hi
      rw [rl1.length, rl2.length]; exact hi
    · rw [zipD_len, rl1.length, rl2.length]
    · obtain ⟨T, x', y', rfl, hT, rfl, hx, hy⟩ := q2
      obtain ⟨d1, q3, q4⟩ := rl1.getv i x' hx
      obtain ⟨d2, q5, q6⟩ := rl2.getv i y' hy
      exact ⟨_, zipD_get ds es i d1 d2 q3 q5, .tup hT (.cons q4 (.cons q6 .nil))⟩
  · cases e
end
end Ev

end
section
set_option linter.all false
set_option maxHeartbeats 2000000
set_option maxRecDepth 100000
namespace Ev
open PySem PySem.Spec PyProof.Rows L2
structure Apart7 (z TI TO i1 i2 i3 a c e : Addr) : Prop where
  TIz : TI ≠ z
  TOz : TO ≠ z
  TITO : TI ≠ TO
  TIi1 : TI ≠ i1
  TIi2 : TI ≠ i2
  TIi3 : TI ≠ i3
  i1z : i1 ≠ z
  i2z : i2 ≠ z
  i3z : i3 ≠ z
  i1TO : i1 ≠ TO
  i2TO : i2 ≠ TO
  i3TO : i3 ≠ TO
  i12 : i1 ≠ i2
  i13 : i1 ≠ i3
  i23 : i2 ≠ i3
  az : a ≠ z
  aTO : a ≠ TO
  ai1 : a ≠ i1
  ai2 : a ≠ i2
  ai3 : a ≠ i3
  cz : c ≠ z
  cTO : c ≠ TO
  ci1 : c ≠ i1
  ci2 : c ≠ i2
  ci3 : c ≠ i3
  ez : e ≠ z
  eTO : e ≠ TO
  ei1 : e ≠ i1
  ei2 : e ≠ i2
  ei3 : e ≠ i3
theorem Apart7.sep {z TI TO i1 i2 i3 a c e : Addr} (D : Apart7 z TI TO i1 i2 i3 a c e) : ZipSep3 z TI TO i1 i2 i3 [i1, a] [i2, c] [i3, e] where
  TIz := D.TIz
  TOz := D.TOz
  TITO := D.TITO
  TIi1 := D.TIi1
  mem1 := by simp
  zf1 := by simp [D.i1z.symm, D.az.symm]
  Tf1 := by simp [D.i1TO.symm, D.aTO.symm]
  TIi2 := D.TIi2
  mem2 := by simp
  zf2 := by simp [D.i2z.symm, D.cz.symm]
  Tf2 := by simp [D.i2TO.symm, D.cTO.symm]
  TIi3 := D.TIi3
  mem3 := by simp
  zf3 := by simp [D.i3z.symm, D.ez.symm]
  Tf3 := by simp [D.i3TO.symm, D.eTO.symm]
  sep1_2 := by simp [D.i12, D.ci1.symm]
  sep1_3 := by simp [D.i13, D.ei1.symm]
  sep2_1 := by simp [D.i12.symm, D.ai2.symm]
  sep2_3 := by simp [D.i23, D.ei2.symm]
  sep3_1 := by simp [D.i13.symm, D.ai3.symm]
  sep3_2 := by simp [D.i23.symm, D.ci3.symm]
theorem got_is {xs : List V} {its : List Value} {i : Nat} {u : Value} (rv : Vals xs its) (hi : i < xs.length) (hu : its.toArray[i]? = some u) : ∃ x, xs[i]? = some x ∧ RelV x u := by
  obtain ⟨x, hx⟩ : ∃ x, xs[i]? = some x := ⟨xs[i], by simp [hi]⟩
  obtain ⟨u', hu', ru⟩ := rv.get hx
  have e : u' = u := by
    have q : its[i]? = some u := by simpa using hu
    rw [hu'] at q
    exact Option.some.inj q
  subst e
  exact ⟨x, hx, ru⟩
/-- triples of the i-th items -/
def ItP3 (G : Hp → Prop) (n : Nat) (Y : Nat → V → V → V → Prop) : It :=
  ⟨fun i H => G H ∧ i < n, fun i H v H' => ∃ T x y u, v = .ref T ∧ H T = none ∧ H' = upd H T (.tup [x, y, u]) ∧ Y i x y u, fun i H => G H ∧ i = n⟩
theorem six {k z TI TO i1 i2 i3 : Addr} (h : k ∈ [z, TI, TO, i1, i2, i3]) : k = z ∨ k = TI ∨ k = TO ∨ k = i1 ∨ k = i2 ∨ k = i3 := by simpa using h
theorem five_six {k z TI TO i1 i2 i3 : Addr} (h : k ∈ [z, TO, i1, i2, i3]) : k ∈ [z, TI, TO, i1, i2, i3] := by
  have e' : k = z ∨ k = TO ∨ k = i1 ∨ k = i2 ∨ k = i3 := by simpa using h
  rcases e' with r | r | r | r | r <;> simp [r]
theorem turn_zip3X {P : Program} {w : World} {K : Fg} {elts : List Expr} {kk : Nat} {tpos : Pos} (b1 b2 b3 : Bool) {a c e z TI TO i1 i2 i3 : Addr} {xs ys zs : List V} (D : Apart7 z TI TO i1 i2 i3 a c e) :
    Turn P w K (.Tuple elts kk tpos) (ItP3 (fun H => SqX K b1 H a xs ∧ SqX K b2 H c ys ∧ SqX K b3 H e zs) (min (min xs.length ys.length) zs.length) fun i x y u => xs[i]? = some x ∧ ys[i]? = some y ∧ zs[i]? = some u) [z, TI, TO, i1, i2, i3] z
      (fun i h => IsZip h z TI TO .none ∧ IsTupOf3 h TI (.ref i1) (.ref i2) (.ref i3) ∧ (∃ a1 a2 a3, IsTupOf3 h TO a1 a2 a3) ∧ ItrX b1 h i1 a i ∧ ItrX b2 h i2 c i ∧ ItrX b3 h i3 e i) where
  mem := by simp
  obj := fun i h st k hk => by
    obtain ⟨hz, hTI, ⟨x, y, u, hTO⟩, h1, h2, h3⟩ := st
    rcases six hk with q | q | q | q | q | q
    · rw [q]; exact ⟨_, hz, fun v q => nomatch q⟩
    · rw [q]; exact ⟨_, hTI, fun v q => nomatch q⟩
    · rw [q]; exact ⟨_, hTO, fun v q => nomatch q⟩
    · rw [q]; exact itrX_obj h1
    · rw [q]; exact itrX_obj h2
    · rw [q]; exact itrX_obj h3
  keep := fun i h h' st k => by
    obtain ⟨hz, hTI, ⟨x, y, u, hTO⟩, h1, h2, h3⟩ := st
    exact ⟨k z (by simp) _ hz, k TI (by simp) _ hTI, ⟨x, y, u, k TO (by simp) _ hTO⟩, itrX_at h1 fun o q => k i1 (by simp) o q, itrX_at h2 fun o q => k i2 (by simp) o q, itrX_at h3 fun o q => k i3 (by simp) o q⟩
  item := by
    intro X hP hw hK hc i pins s σ H E I hf st hg
    subst hP hw hK
    obtain ⟨hz, hTI, hTO, h1, h2, h3⟩ := st
    obtain ⟨⟨hq1, hq2, hq3⟩, hlt⟩ := hg
    obtain ⟨its, rv, hl, hal, _⟩ := seqX I hq1
    obtain ⟨its2, rv2, hl2, hal2, _⟩ := seqX I hq2
    obtain ⟨its3, rv3, hl3, hal3, _⟩ := seqX I hq3
    have hh : X.A.in1.handled = none := I.ok.hd hc
    have W := WalksT.zipD3 (prog := X.prog) (w := X.w) (A := X.A) D.sep (drawX b1 hh i1 a D.ai1 its.toArray) (drawX b2 hh i2 c D.ci2 its2.toArray) (drawX b3 hh i3 e D.ei3 its3.toArray)
    have hn : i < min (min its.toArray.size its2.toArray.size) its3.toArray.size := by rw [List.size_toArray, List.size_toArray, List.size_toArray, ← rv.length, ← rv2.length, ← rv3.length]; exact hlt
    have hl1 : i < xs.length := by omega
    have hl22 : i < ys.length := by omega
    have hl33 : i < zs.length := by omega
    refine W.item i s _ _ hn ⟨hz, hTI, hTO, ⟨h1, hl⟩, ⟨h2, hl2⟩, ⟨h3, hl3⟩⟩ fun T vals h' tk hP hT hTup hm hk => ?_
    obtain ⟨u1, u2, u3, hu1, hu2, hu3, rfl⟩ := hP
    refine ⟨_, rfl, W.go elts kk tpos i T { s with heap := h', toks := tk } _ _ hm fun h'' st'' hk2 => ?_⟩
    have nT := W.apart i T h' hm
    have hTup2 : h''.IsTuple T #[u1, u2, u3] := hTup.at fun o q => hk2 T o nT q
    obtain ⟨x, hx, ru1⟩ := got_is rv hl1 hu1
    obtain ⟨y, hy, ru2⟩ := got_is rv2 hl22 hu2
    obtain ⟨u, hu, ru3⟩ := got_is rv3 hl33 hu3
    have new : ObjOk X.prog X.w (upd H T (.tup [x, y, u])) h'' T (.tup [x, y, u]) := ⟨by show 3 ≤ sizeLine; decide, [u1, u2, u3], .cons ru1 (.cons ru2 (.cons ru3 .nil)), hTup2⟩
    have hkk : ∀ k o, k ∉ [z, TI, TO, i1, i2, i3] → s.heap.get? k = some o → h''.get? k = some o := fun k o hb q => by
      have nb : k ∉ [z, TO, i1, i2, i3] := fun q' => hb (five_six q')
      exact hk2 k o nb (hk k o nb q)
    have I1 : Inv X pins σ (upd H T (.tup [x, y, u])) { s with heap := h'', toks := tk } := I.turnedNew (ch := [z, TI, TO, i1, i2, i3]) hkk hf hT new
    have zlt : z < s.heap.objs.size := Heap.lt_size hz
    have TIlt : TI < s.heap.objs.size := Heap.lt_size hTI
    have TOlt : TO < s.heap.objs.size := by obtain ⟨_, _, _, q⟩ := hTO; exact Heap.lt_size q
    have i1lt : i1 < s.heap.objs.size := by obtain ⟨_, q, _⟩ := itrX_obj h1; exact Heap.lt_size q
    have i2lt : i2 < s.heap.objs.size := by obtain ⟨_, q, _⟩ := itrX_obj h2; exact Heap.lt_size q
    have i3lt : i3 < s.heap.objs.size := by obtain ⟨_, q, _⟩ := itrX_obj h3; exact Heap.lt_size q
    refine ⟨.ref T, _, I1, rfl, ⟨T, x, y, u, rfl, I.hok.fresh hT, rfl, hx, hy, hu⟩, ⟨st''.1, st''.2.1, st''.2.2.1, st''.2.2.2.1.1, st''.2.2.2.2.1.1, st''.2.2.2.2.2.1⟩, fun k hcm => ?_⟩
    have hlt2 : k < s.heap.objs.size := by
      rcases six hcm with q | q | q | q | q | q <;> (rw [q]; assumption)
    rw [upd_ne (Nat.ne_of_lt (Nat.lt_of_lt_of_le hlt2 hT))]
    exact (hf k hcm).1
  done := by
    intro X hP hw hK hc i pins s σ H E I hf st hg
    subst hP hw hK
    obtain ⟨hz, hTI, hTO, h1, h2, h3⟩ := st
    obtain ⟨⟨hq1, hq2, hq3⟩, hlt⟩ := hg
    obtain ⟨its, rv, hl, hal, _⟩ := seqX I hq1
    obtain ⟨its2, rv2, hl2, hal2, _⟩ := seqX I hq2
    obtain ⟨its3, rv3, hl3, hal3, _⟩ := seqX I hq3
    have hh : X.A.in1.handled = none := I.ok.hd hc
    have W := WalksT.zipD3 (prog := X.prog) (w := X.w) (A := X.A) D.sep (drawX b1 hh i1 a D.ai1 its.toArray) (drawX b2 hh i2 c D.ci2 its2.toArray) (drawX b3 hh i3 e D.ei3 its3.toArray)
    have hn : min (min its.toArray.size its2.toArray.size) its3.toArray.size = i := by rw [List.size_toArray, List.size_toArray, List.size_toArray, ← rv.length, ← rv2.length, ← rv3.length]; exact hlt.symm
    refine W.done s _ _ ?_ fun h' tk hk => ⟨rfl, ?_⟩
    · rw [hn]
      exact ⟨hz, hTI, hTO, ⟨h1, hl⟩, ⟨h2, hl2⟩, ⟨h3, hl3⟩⟩
    · exact I.turnedL (ch := [z, TI, TO, i1, i2, i3]) (t' := tk) (fun k o hb q => hk k o (fun q' => hb (five_six q')) q) hf
  self := fun A i s Q E st h => wpAny_pyIter_zip st.1 h
def iZip3X (K : Fg) (ta : TA) : TI := fun σ H R => ta σ H fun vs H1 => ∃ b1 b2 b3 a c e xs ys zs, vs = [.ref a, .ref c, .ref e] ∧ SqX K b1 H1 a xs ∧ SqX K b2 H1 c ys ∧ SqX K b3 H1 e zs ∧
  R (ItP3 (fun H => SqX K b1 H a xs ∧ SqX K b2 H c ys ∧ SqX K b3 H e zs) (min (min xs.length ys.length) zs.length) fun i x y u => xs[i]? = some x ∧ ys[i]? = some y ∧ zs[i]? = some u) H1
theorem pi_zip3X {X : Cx} {e e2 e3 : Expr} {ta : TA} {p pos tpos : Pos} {elts : List Expr} {kk : Nat} (hg : Gl X "zip") (hm : X.mg "zip" = none) (ha : PA X [e, e2, e3] ta)
    (hs : starEach [e, e2, e3] X.env = (false, eval e X.env) :: starEach [e2, e3] X.env) (hpl : (backTo pos (starEach [e2, e3] X.env)).any (·.1) = false) :
    PI X (.Tuple elts kk tpos) (.Call (.Name "zip" p) [e, e2, e3] [] pos) (iZip3X X.K ta) := by
  refine ⟨fun pins s σ H R I h => ?_⟩
  refine Call_ (ld_blt I hg hm PyProof.Rows.boot_zip (PyProof.Rows.callWith_type1 (thn (ha.run pos pins s σ H _ I h) fun us s1 ⟨vs, H1, I1, r1, q1⟩ => ?_) hs hpl))
  obtain ⟨b1, b2, b3, a, c, d, xs, ys, zs, ex, hq1, hq2, hq3, q⟩ := q1
  subst ex
  cases r1 with
  | cons r rr =>
    cases rr with
    | cons r' rr =>
      cases rr with
      | cons r'' rr =>
        cases rr
        cases r
        cases r'
        cases r''
        obtain ⟨its, rv, hl, hal, _⟩ := seqX I1 hq1
        obtain ⟨its2, rv2, hl2, hal2, _⟩ := seqX I1 hq2
        obtain ⟨its3, rv3, hl3, hal3, _⟩ := seqX I1 hq3
        refine zip_begins3 (begX b1 a its.toArray) (begX b2 c its2.toArray) (begX b3 d its3.toArray) hl hl2 hl3 fun h' hz hTI hTO h1 h2 h3 hsz hk => wpAny_pyIter_zip hz ?_
        have I2 : Inv X pins σ H1 { s1 with heap := h' } := I1.kept (t' := s1.toks) hk
        have D : Apart7 (s1.heap.objs.size + 5) (s1.heap.objs.size + 3) (s1.heap.objs.size + 4) s1.heap.objs.size (s1.heap.objs.size + 1) (s1.heap.objs.size + 2) a c d := by
          have ap : ∀ n x y w : Nat, x < n → y < n → w < n → Apart7 (n + 5) (n + 3) (n + 4) n (n + 1) (n + 2) x y w := fun n x y w hx hy hw => by
            constructor <;> (show (_ : Nat) ≠ _) <;> omega
          exact ap _ _ _ _ hal hal2 hal3
        refine ⟨s1.heap.objs.size + 5, [s1.heap.objs.size + 5, s1.heap.objs.size + 3, s1.heap.objs.size + 4, s1.heap.objs.size, s1.heap.objs.size + 1, s1.heap.objs.size + 2], _, _, H1, rfl, I2, turn_zip3X b1 b2 b3 D, ⟨hz, hTI, ⟨_, _, _, hTO⟩, itrX_new h1, itrX_new h2, itrX_new h3⟩, fun k hcm => ?_, q⟩
        have hle : s1.heap.objs.size ≤ k := by
          rcases six hcm with z | z | z | z | z | z
          · rw [z]; exact Nat.le_add_right _ _
          · rw [z]; exact Nat.le_add_right _ _
          · rw [z]; exact Nat.le_add_right _ _
          · rw [z]; exact Nat.le_refl _
          · rw [z]; exact Nat.le_add_right _ _
          · rw [z]; exact Nat.le_add_right _ _
        exact I1.fpOk hle (I1.hok.fresh hle)
theorem zip3D_get : ∀ (xs ys zs : List D) (i : Nat) (x y z : D), xs[i]? = some x → ys[i]? = some y → zs[i]? = some z → (zip3D xs ys zs)[i]? = some (.tuple [x, y, z])
  | [], _, _, i, x, y, z, h, _, _ => by simp at h
  | _ :: _, [], _, i, x, y, z, _, h, _ => by simp at h
  | _ :: _, _ :: _, [], i, x, y, z, _, _, h => by simp at h
  | a :: r, b :: q, c :: s, 0, x, y, z, h, h2, h3 => by
    simp only [List.getElem?_cons_zero, Option.some.injEq] at h h2 h3
    subst h h2 h3
    simp [zip3D]
  | a :: r, b :: q, c :: s, i + 1, x, y, z, h, h2, h3 => by
    simp only [List.getElem?_cons_succ] at h h2 h3
    exact zip3D_get r q s i x y z h h2 h3
theorem zip3D_len : ∀ (xs ys zs : List D), (zip3D xs ys zs).length = min (min xs.length ys.length) zs.length
  | [], _, _ => by simp [zip3D]
  | _ :: _, [], _ => by simp [zip3D]
  | _ :: _, _ :: _, [] => by simp [zip3D]
  | a :: r, b :: q, c :: s => by
    show (zip3D r q s).length + 1 = _
    rw [zip3D_len]
    simp only [List.length_cons]
    omega
theorem ri_zip3 {X : Cx} {B : Bs} {a b c : Expr} {pos : Pos} {f g h : Env → Res TV} {p tpos : Pos} {elts : List Expr} {kk : Nat} (hg : Gl X "zip") (hm : X.mg "zip" = none) (hp1 : plainE a = true) (hp2 : plainE b = true) (hp3 : plainE c = true) (ha : PE X a (RdE X.K B f)) (hb : PE X b (RdE X.K B g)) (hc : PE X c (RdE X.K B h)) :
    PI X (.Tuple elts kk tpos) (.Call (.Name "zip" p) [a, b, c] [] pos) (RdI X.K B fun r => (f r).bind fun x r1 => (solidR r1 x).bind fun v r2 => (g r2).bind fun y r3 => (solidR r3 y).bind fun w r4 => (h r4).bind fun z r5 => (solidR r5 z).bind fun u r6 =>
      match listOf v, listOf w, listOf u with
      | some xs, some ys, some zs => .ok (zip3D xs ys zs) r6
      | _, _, _ => .stuck) := by
  refine PI.imp (pi_zip3X hg hm (pa_cons ha (pa_cons hb (pa_cons hc pa_nil (star_cons hp3)) (star_cons hp2)) (star_cons hp1)) (star_cons hp1) (star_any (by simp [hp2, hp3]))) fun σ H R ⟨F, r, s, t, r', e, k⟩ => ?_
  obtain ⟨x, r1, e1, e⟩ := bind_inv e
  obtain ⟨v, r2, e2, e⟩ := bind_inv e
  obtain ⟨y, r3, e3, e⟩ := bind_inv e
  obtain ⟨w, r4, e4, e⟩ := bind_inv e
  obtain ⟨z, r5, e5, e⟩ := bind_inv e
  obtain ⟨u, r6, e6, e⟩ := bind_inv e
  refine ⟨F, r, s, x, r1, e1, fun xv F1 H1 p1 t1 => ?_⟩
  obtain ⟨F2, p2, h2, _⟩ := solid_post s p1 t1 (solidR_ok e2)
  refine ⟨F2, r2, p2.st, y, r3, e3, fun yv F3 H3 p3 t3 => ?_⟩
  obtain ⟨F4, p4, h4, _⟩ := solid_post p2.st p3 t3 (solidR_ok e4)
  refine ⟨F4, r4, p4.st, z, r5, e5, fun zv F5 H5 p5 t5 => ?_⟩
  obtain ⟨F6, p6, h6, _⟩ := solid_post p4.st p5 t5 (solidR_ok e6)
  split at e
  · rename_i ds es gs z1 z2 z3
    cases e
    obtain ⟨b1, a1, xs, rfl, rl1, hS1⟩ := (h2.mono (p4.trans p6).mono).seqX z1
    obtain ⟨b2, a2, ys, rfl, rl2, hS2⟩ := (h4.mono p6.mono).seqX z2
    obtain ⟨b3, a3, zs, rfl, rl3, hS3⟩ := h6.seqX z3
    refine ⟨b1, b2, b3, a1, a2, a3, xs, ys, zs, rfl, hS1 _ p6.st.sub, hS2 _ p6.st.sub, hS3 _ p6.st.sub, k _ F6 H5 ((p2.trans p4).trans p6) ⟨fun i H hi sb => ⟨⟨hS1 H sb, hS2 H sb, hS3 H sb⟩, ?_⟩, fun H sb => ⟨⟨hS1 H sb, hS2 H sb, hS3 H sb⟩, ?_⟩, fun i H q H' hi sb q2 => ?_⟩⟩
    · rw [zip3D_len] at hi
      rw [rl1.length, rl2.length, rl3.length]; exact hi
    · rw [zip3D_len, rl1.length, rl2.length, rl3.length]
    · obtain ⟨T, x', y', u', rfl, hT, rfl, hx, hy, hu⟩ := q2
      obtain ⟨d1, q3, q4⟩ := rl1.getv i x' hx
      obtain ⟨d2, q5, q6⟩ := rl2.getv i y' hy
      obtain ⟨d3, q7, q8⟩ := rl3.getv i u' hu
      exact ⟨_, zip3D_get ds es gs i d1 d2 d3 q3 q5 q7, .tup hT (.cons q4 (.cons q6 (.cons q8 .nil)))⟩
  · cases e
end Ev

end
section
set_option linter.all false
set_option maxHeartbeats 2000000
/-! Stores to names, alone or in tuples. -/
namespace Ev
open PySem PySem.Spec PyProof.Rows L2
theorem set_same {α : Type} {l : List α} {i : Nat} {x : α} {s : α} (h : l[i]? = some s) : (l.set i x)[i]? = some x := by
  rw [List.getElem?_set_self]
  exact (List.getElem?_eq_some_iff.mp h).1
section
variable {K : Fg} {B : Bs} {F H : Hp} {σ : L2.St} {r : Env}
theorem own_sub {i : Nat} {v : V} {d : D} {a : Addr} (h : Own (σ.set i (some v)) (r.set i (.val d)) a) : Own σ r a := by
  obtain ⟨j, c, q, w⟩ := h
  have ne : j ≠ i ∧ (r[j]? = some (.own c) ∨ r[j]? = some (.bor c)) := by
    rcases q with q | q
    · rcases getset q with ⟨_, z⟩ | ⟨z, q⟩
      · cases z
      · exact ⟨z, .inl q⟩
    · rcases getset q with ⟨_, z⟩ | ⟨z, q⟩
      · cases z
      · exact ⟨z, .inr q⟩
  rw [List.getElem?_set_ne (fun z => ne.1 z.symm)] at w
  exact ⟨j, c, ne.2, w⟩
theorem asn_val {i : Nat} {v : V} {d : D} {s : Sl} (st : StR K B F H σ r) (hv : Rp K F v d) (hi : r[i]? = some s) : StR K B F H (σ.set i (some v)) (r.set i (.val d)) := by
  have hs : ∃ y, σ[i]? = some y := by
    have h1 := (List.getElem?_eq_some_iff.mp hi).1
    rw [← st.len] at h1
    exact ⟨σ[i], by simp [h1]⟩
  obtain ⟨y, hs⟩ := hs
  have mu : ∀ {j : Nat} {c : D}, ((r.set i (.val d))[j]? = some (.own c) ∨ (r.set i (.val d))[j]? = some (.bor c)) → j ≠ i ∧ (r[j]? = some (.own c) ∨ r[j]? = some (.bor c)) := fun {j c} q => by
    rcases q with q | q
    · rcases getset q with ⟨_, z⟩ | ⟨z, q⟩
      · cases z
      · exact ⟨z, .inl q⟩
    · rcases getset q with ⟨_, z⟩ | ⟨z, q⟩
      · cases z
      · exact ⟨z, .inr q⟩
  have sne : ∀ {j : Nat}, j ≠ i → (σ.set i (some v))[j]? = σ[j]? := fun {j} z => List.getElem?_set_ne (fun q => z q.symm)
  refine ⟨st.sub, st.dom, by rw [List.length_set, List.length_set, st.len], fun j c q => ?_, fun j c q => ?_, fun j c a q w => ?_, fun j c a q w => ?_, fun j k c c' a q1 q2 w1 w2 => ?_, fun j q => ?_⟩
  · rcases getset q with ⟨z, z2⟩ | ⟨z, q⟩
    · subst z; cases z2
      exact ⟨v, set_same hs, hv⟩
    · rw [sne z]; exact st.val j c q
  · obtain ⟨z, q⟩ := mu q
    rw [sne z]; exact st.obj j c q
  · obtain ⟨z, q'⟩ := mu (.inl q)
    rw [sne z] at w
    rcases q' with q' | q'
    · exact st.new j c a q' w
    · rcases getset q with ⟨z2, _⟩ | ⟨_, q⟩
      · exact absurd z2 z
      · rw [q'] at q; cases q
  · rcases getset q with ⟨_, z⟩ | ⟨z, q⟩
    · cases z
    · rw [sne z] at w
      exact st.lnt j c a q w
  · obtain ⟨z1, q1⟩ := mu q1
    obtain ⟨z2, q2⟩ := mu q2
    rw [sne z1] at w1
    rw [sne z2] at w2
    exact st.inj j k c c' a q1 q2 w1 w2
  · rcases getset q with ⟨_, z⟩ | ⟨z, q⟩
    · cases z
    · rw [sne z]; exact st.pin j q
theorem asn_own {i : Nat} {p : Addr} {o : HO} {d : D} {s : Sl} (st : StR K B F H σ r) (e1 : H p = some o) (e2 : F p = none) (e3 : ObR K F o d) (no : ¬ Own σ r p) (nb : nT B.h p = none) (hi : r[i]? = some s) :
    StR K B F H (σ.set i (some (.ref p))) (r.set i (.own d)) ∧ ∀ a, Own (σ.set i (some (.ref p))) (r.set i (.own d)) a → Own σ r a ∨ a = p := by
  have hs : ∃ y, σ[i]? = some y := by
    have h1 := (List.getElem?_eq_some_iff.mp hi).1
    rw [← st.len] at h1
    exact ⟨σ[i], by simp [h1]⟩
  obtain ⟨y, hs⟩ := hs
  have sne : ∀ {j : Nat}, j ≠ i → (σ.set i (some (V.ref p)))[j]? = σ[j]? := fun {j} z => List.getElem?_set_ne (fun q => z q.symm)
  have ss : (σ.set i (some (V.ref p)))[i]? = some (some (.ref p)) := set_same hs
  have mu : ∀ {j : Nat} {c : D}, ((r.set i (.own d))[j]? = some (.own c) ∨ (r.set i (.own d))[j]? = some (.bor c)) → (j = i ∧ c = d) ∨ (j ≠ i ∧ (r[j]? = some (.own c) ∨ r[j]? = some (.bor c))) := fun {j c} q => by
    rcases q with q | q
    · rcases getset q with ⟨z, z2⟩ | ⟨z, q⟩
      · cases z2; exact .inl ⟨z, rfl⟩
      · exact .inr ⟨z, .inl q⟩
    · rcases getset q with ⟨_, z⟩ | ⟨z, q⟩
      · cases z
      · exact .inr ⟨z, .inr q⟩
  have pn : ∀ {j : Nat} {c : D}, (r[j]? = some (.own c) ∨ r[j]? = some (.bor c)) → σ[j]? ≠ some (some (.ref p)) := fun {j c} q w => no ⟨j, c, q, w⟩
  refine ⟨⟨st.sub, st.dom, by rw [List.length_set, List.length_set, st.len], fun j c q => ?_, fun j c q => ?_, fun j c a q w => ?_, fun j c a q w => ?_, fun j k c c' a q1 q2 w1 w2 => ?_, fun j q => ?_⟩, fun a ⟨j, c, q, w⟩ => ?_⟩
  · rcases getset q with ⟨z, z2⟩ | ⟨z, q⟩
    · cases z2
    · rw [sne z]; exact st.val j c q
  · rcases mu q with ⟨rfl, rfl⟩ | ⟨z, q⟩
    · exact ⟨p, o, ss, e1, e2, e3⟩
    · rw [sne z]; exact st.obj j c q
  · rcases mu (.inl q) with ⟨rfl, rfl⟩ | ⟨z, q'⟩
    · rw [ss] at w; cases w; exact nb
    · rw [sne z] at w
      rcases getset q with ⟨z2, _⟩ | ⟨_, q⟩
      · exact absurd z2 z
      · exact st.new j c a q w
  · rcases getset q with ⟨_, z⟩ | ⟨z, q⟩
    · cases z
    · rw [sne z] at w
      exact st.lnt j c a q w
  · rcases mu q1 with ⟨rfl, rfl⟩ | ⟨z1, q1⟩
    · rw [ss] at w1
      cases w1
      rcases mu q2 with ⟨rfl, _⟩ | ⟨z2, q2⟩
      · rfl
      · rw [sne z2] at w2; exact absurd w2 (pn q2)
    · rw [sne z1] at w1
      rcases mu q2 with ⟨rfl, _⟩ | ⟨z2, q2⟩
      · rw [ss] at w2
        cases w2
        rename_i q1' _
        exact absurd w1 (pn q1')
      · rw [sne z2] at w2
        exact st.inj j k c c' a q1 q2 w1 w2
  · rcases getset q with ⟨_, z⟩ | ⟨z, q⟩
    · cases z
    · rw [sne z]; exact st.pin j q
  · rcases mu q with ⟨rfl, rfl⟩ | ⟨z, q⟩
    · rw [ss] at w; cases w; exact .inr rfl
    · rw [sne z] at w; exact .inl ⟨j, c, q, w⟩
end
mutual
def slotsT : IT → List Nat
  | .n i _ => [i]
  | .t l => slotsL l
def slotsL : List IT → List Nat
  | [] => []
  | t :: ts => slotsT t ++ slotsL ts
end
/-- behind stores of values that stay: what else was in the slots is there still -/
structure AsnP (K : Fg) (B : Bs) (F H : Hp) (sl : List Nat) (σ : L2.St) (r : Env) (σ' : L2.St) (r' : Env) : Prop where
  st : StR K B F H σ' r'
  own : ∀ a, Own σ' r' a → Own σ r a
  oth : ∀ (j : Nat), j ∉ sl → σ'[j]? = σ[j]? ∧ r'[j]? = r[j]?
  bor : ∀ (j : Nat) (d : D), r[j]? = some (.bor d) → r'[j]? = some (.bor d) ∧ σ'[j]? = σ[j]?
  ren : ∀ (j : Nat) (d : D), r'[j]? = some (.bor d) → r[j]? = some (.bor d)
  len : σ'.length = σ.length
theorem AsnP.trans {K : Fg} {B : Bs} {F H : Hp} {l m : List Nat} {σ σ1 σ2 : L2.St} {r r1 r2 : Env} (a : AsnP K B F H l σ r σ1 r1) (b : AsnP K B F H m σ1 r1 σ2 r2) : AsnP K B F H (l ++ m) σ r σ2 r2 where
  st := b.st
  own := fun c h => a.own c (b.own c h)
  oth := fun j h => by
    rw [List.mem_append, not_or] at h
    obtain ⟨h1, h2⟩ := a.oth j h.1
    obtain ⟨h3, h4⟩ := b.oth j h.2
    exact ⟨h3.trans h1, h4.trans h2⟩
  bor := fun j d h => by
    obtain ⟨h1, h2⟩ := a.bor j d h
    obtain ⟨h3, h4⟩ := b.bor j d h1
    exact ⟨h3, h4.trans h2⟩
  ren := fun j d h => a.ren j d (b.ren j d h)
  len := b.len.trans a.len
def RdG (K : Fg) (B : Bs) (t : IT) : TG := fun v σ H Q => ∃ F r d, StR K B F H σ r ∧ Rp K F v d ∧ ∃ r', asn t (.d d) r = .ok () r' ∧ ∀ σ', AsnP K B F H (slotsT t) σ r σ' r' → Q σ' H
def RdGs (K : Fg) (B : Bs) (t : List IT) : TGs := fun vs σ H Q => ∃ F r ds, StR K B F H σ r ∧ RpL K F vs ds ∧ ∃ r', asnL t ds r = .ok () r' ∧ ∀ σ', AsnP K B F H (slotsL t) σ r σ' r' → Q σ' H
theorem asn1_val {K : Fg} {B : Bs} {F H : Hp} {σ : L2.St} {r r' : Env} {i : Nat} {v : V} {d : D} (st : StR K B F H σ r) (hv : Rp K F v d) (e : asn1 i false (.d d) r = .ok () r') : AsnP K B F H [i] σ r (σ.set i (some v)) r' := by
  unfold asn1 at e
  split at e
  · cases e
  · cases e
  · cases e
  · rename_i s nb nl hs
    rw [if_neg (by decide)] at e
    cases (show Res.ok () (r.set i (.val d)) = Res.ok () r' from e)
    refine ⟨asn_val st hv hs, fun a => own_sub, fun j h => ?_, fun j c h => ?_, fun j c h => ?_, List.length_set⟩
    · have z : j ≠ i := by simpa using h
      exact ⟨List.getElem?_set_ne (fun q => z q.symm), List.getElem?_set_ne (fun q => z q.symm)⟩
    · have z : j ≠ i := fun z => by subst z; rw [h] at hs; cases hs; exact nb c rfl
      exact ⟨by rw [List.getElem?_set_ne (fun q => z q.symm)]; exact h, List.getElem?_set_ne (fun q => z q.symm)⟩
    · rcases getset h with ⟨_, z⟩ | ⟨_, h⟩
      · cases z
      · exact h
section
variable {X : Cx} {B : Bs} {pos : Pos}
theorem rg_name {i : Nat} {x : Str} (hN : X.N.Nodup) (hi : X.N[i]? = some x) (hx : Loc X.env.scope x) (hf : X.fn x = true ∨ X.env.scope.names.lookup x = some .local) : PG X (.Name x pos) (RdG X.K B (.n i false)) := by
  refine PG.imp (pg_name hN hi hx hf) fun v σ H Q ⟨F, r, d, st, hv, r', e, k⟩ => ?_
  exact k _ (asn1_val st hv e)
theorem PG.weak {e : Expr} {t t' : TG} (h : PG X e t) (w : ∀ v σ H Q, t' v σ H Q → t v σ H Q) : PG X e t' := ⟨fun pins s σ H v u Q I r q => h.run pins s σ H v u Q I r (w v σ H Q q)⟩
theorem PGs.weak {e : List Expr} {t t' : TGs} (h : PGs X e t) (w : ∀ v σ H Q, t' v σ H Q → t v σ H Q) : PGs X e t' := ⟨fun pins s σ H v u Q I r q => h.run pins s σ H v u Q I r (w v σ H Q q)⟩
theorem AsnP.refl {K : Fg} {B : Bs} {F H : Hp} {σ : L2.St} {r : Env} (s : StR K B F H σ r) : AsnP K B F H [] σ r σ r := ⟨s, fun _ h => h, fun _ _ => ⟨rfl, rfl⟩, fun _ _ h => ⟨h, rfl⟩, fun _ _ h => h, rfl⟩
theorem rgs_nil : PGs X [] (RdGs X.K B []) := by
  refine PGs.weak pgs_nil fun vs σ H Q ⟨F, r, ds, st, rl, r', e, k⟩ => ?_
  cases rl with
  | nil =>
    cases (show Res.ok () r = Res.ok () r' from e)
    exact ⟨rfl, k _ (AsnP.refl st)⟩
  | cons h q => cases (show (Res.stuck : Res Unit) = Res.ok () r' from e)
theorem each_cons {e : Expr} {es : List Expr} {env : PySem.Env} (h : plainE e = true) : assignEach (e :: es) env = (false, assign e env) :: assignEach es env := by
  cases e <;> first | rfl | (simp [plainE] at h)
theorem each_len {env : PySem.Env} : ∀ {es : List Expr}, es.all plainE = true → (assignEach es env).length = es.length ∧ (assignEach es env).findIdx? (·.1) = none
  | [], _ => ⟨rfl, rfl⟩
  | e :: es, h => by
    rw [List.all_cons, Bool.and_eq_true] at h
    obtain ⟨h1, h2⟩ := each_len (env := env) h.2
    rw [each_cons h.1]
    refine ⟨by rw [List.length_cons, List.length_cons, h1], ?_⟩
    rw [List.findIdx?_cons]
    simp only [Bool.false_eq_true, if_false]
    rw [h2]
    rfl
theorem rgs_cons {e : Expr} {es : List Expr} {t : IT} {ts : List IT} (hp : plainE e = true) (h1 : PG X e (RdG X.K B t)) (h2 : PGs X es (RdGs X.K B ts)) : PGs X (e :: es) (RdGs X.K B (t :: ts)) := by
  refine PGs.weak (pgs_cons h1 h2 (by rw [each_cons hp]; rfl)) fun vs σ H Q ⟨F, r, ds, st, rl, r', e, k⟩ => ?_
  cases rl with
  | nil => cases (show (Res.stuck : Res Unit) = Res.ok () r' from e)
  | @cons v vs d ds hv rl =>
    obtain ⟨_, r1, e1, e2⟩ := bind_inv (show (asn t (.d d) r).bind (fun _ r' => asnL ts ds r') = Res.ok () r' from e)
    refine ⟨v, vs, rfl, F, r, d, st, hv, r1, e1, fun σ1 p1 => ⟨F, r1, ds, p1.st, rl, r', e2, fun σ2 p2 => ?_⟩⟩
    exact k σ2 (p1.trans p2)
theorem pg_seq {es : List Expr} {k : Nat} {t : TGs} {n : Nat} (hc : X.calm = true) (h : PGs X es t) (hn : (assignEach es X.env).length = n) (hst : (assignEach es X.env).findIdx? (·.1) = none) :
    PG X (.Tuple es k pos) fun v σ H Q => gTup X.K n t v σ H Q ∨ gLst X.K n t v σ H Q :=
  ⟨fun pins s σ H v u Q I r q => q.elim (fun q => (pg_tup hc h hn hst).run pins s σ H v u Q I r q) fun q => (pg_lst hc h hn hst).run pins s σ H v u Q I r q⟩
theorem asnL_len : ∀ (ts : List IT) (xs : List D) (r r' : Env), asnL ts xs r = .ok () r' → xs.length = ts.length := fun ts => by
  induction ts with
  | nil => intro xs r r' e; cases xs with
    | nil => rfl
    | cons => cases (show (Res.stuck : Res Unit) = Res.ok () r' from e)
  | cons t ts ih => intro xs r r' e; cases xs with
    | nil => cases (show (Res.stuck : Res Unit) = Res.ok () r' from e)
    | cons x xs =>
      obtain ⟨_, r1, _, e2⟩ := bind_inv (show (asn t (.d x) r).bind (fun _ r' => asnL ts xs r') = Res.ok () r' from e)
      rw [List.length_cons, List.length_cons, ih xs r1 r' e2]
theorem rg_tup {es : List Expr} {k : Nat} {ts : List IT} (hc : X.calm = true) (hp : es.all plainE = true) (hl : es.length = ts.length) (h : PGs X es (RdGs X.K B ts)) : PG X (.Tuple es k pos) (RdG X.K B (.t ts)) := by
  refine PG.weak (pg_seq hc h (each_len hp).1 (each_len hp).2) fun v σ H Q ⟨F, r, d, st, hv, r', e, k⟩ => ?_
  unfold asn at e
  split at e
  · rename_i xs q
    cases (show some d = some (PyData.tuple xs) from q)
    cases hv with
    | tup h1 h2 =>
      have hlen : xs.length = es.length := by rw [asnL_len ts xs r r' e, hl]
      exact .inl ⟨_, _, rfl, st.sub.sqt h1.sqt, by rw [h2.length, hlen], F, r, xs, st, h2, r', e, k⟩
  · rename_i xs q
    cases (show some d = some (PyData.list xs) from q)
    rw [if_neg (by simp [isSl])] at e
    cases hv with
    | lst h1 h2 =>
      have hlen : xs.length = es.length := by rw [asnL_len ts xs r r' e, hl]
      exact .inr ⟨_, _, rfl, st.sub.sql (.inl (.inl h1)), by rw [h2.length, hlen], F, r, xs, st, h2, r', e, k⟩
  · cases e
end
end Ev

end
section
set_option linter.all false
set_option maxHeartbeats 4000000
/-! List comprehensions. -/
namespace Ev
open PySem PySem.Spec PyProof.Rows L2
/-- what a piece of a run does to the heap: O the objects that it may change -/
structure Mv (O O' : Addr → Prop) (F H F' H' : Hp) : Prop where
  mono : Sub F F'
  frame : Kp O H H'
  dom : ∀ a, nT H a ≠ none → nT H' a ≠ none
  fr : ∀ a, F' a ≠ none → F a ≠ none ∨ NT H a ∨ O a
  own : ∀ a, O' a → O a
theorem Mv.refl {O : Addr → Prop} {F H : Hp} : Mv O O F H F H := ⟨Sub.refl _, Kp.refl, fun _ h => h, fun _ h => .inl h, fun _ h => h⟩
theorem Mv.less {O O' : Addr → Prop} {F H : Hp} (h : ∀ a, O' a → O a) : Mv O O' F H F H := ⟨Sub.refl _, Kp.refl, fun _ h => h, fun _ h => .inl h, h⟩
theorem Mv.trans {O O1 O2 : Addr → Prop} {F H F1 H1 F2 H2 : Hp} (a : Mv O O1 F H F1 H1) (b : Mv O1 O2 F1 H1 F2 H2) : Mv O O2 F H F2 H2 where
  mono := a.mono.trans b.mono
  frame := a.frame.trans b.frame fun c q => .inl (a.own c q)
  dom := fun c h => b.dom c (a.dom c h)
  fr := fun c h => by
    rcases b.fr c h with q | q | q
    · exact a.fr c q
    · exact Classical.byCases (fun w : O c => .inr (.inr w)) fun w => .inr (.inl (NT.back a.frame a.dom w q))
    · exact .inr (.inr (a.own c q))
  own := fun c h => a.own c (b.own c h)
theorem Post.mv {K : Fg} {B : Bs} {σ : L2.St} {r r' : Env} {F H F' H' : Hp} (p : Post K B σ r F H r' F' H') : Mv (Own σ r) (Own σ r') F H F' H' := ⟨p.mono, p.frame, p.dom, p.fr, p.own⟩
theorem Mv.post {K : Fg} {B : Bs} {σ : L2.St} {r r' : Env} {F H F' H' : Hp} (m : Mv (Own σ r) (Own σ r') F H F' H') (s : StR K B F' H' σ r') : Post K B σ r F H r' F' H' := ⟨s, m.mono, m.frame, m.dom, m.fr, m.own⟩
theorem wipe_get (σ : L2.St) (j : Nat) : ∀ vs : List Nat, (wipe σ vs)[j]? = if j ∈ vs then σ[j]?.map (fun _ => none) else σ[j]?
  | [] => by simp [wipe]
  | v :: vs => by
    have ih := wipe_get σ j vs
    show ((wipe σ vs).set v none)[j]? = _
    by_cases e : v = j
    · subst e
      rw [if_pos List.mem_cons_self, List.getElem?_set]
      rw [if_pos rfl, wipe_length]
      by_cases h : v < σ.length
      · rw [if_pos h, List.getElem?_eq_getElem h]; rfl
      · rw [if_neg h, List.getElem?_eq_none (by omega)]; rfl
    · rw [List.getElem?_set_ne e, ih]
      by_cases h : j ∈ vs
      · rw [if_pos h, if_pos (List.mem_cons_of_mem _ h)]
      · rw [if_neg h, if_neg (by simp only [List.mem_cons, not_or]; exact ⟨fun z => e z.symm, h⟩)]
theorem wipeE_len (r : Env) : ∀ vs : List Nat, (wipeE vs r).length = r.length
  | [] => rfl
  | v :: vs => by
    show ((wipeE vs r).set v .un).length = _
    rw [List.length_set, wipeE_len r vs]
theorem wipeE_get (r : Env) (j : Nat) : ∀ vs : List Nat, (wipeE vs r)[j]? = if j ∈ vs then r[j]?.map (fun _ => .un) else r[j]?
  | [] => by simp [wipeE]
  | v :: vs => by
    have ih := wipeE_get r j vs
    show ((wipeE vs r).set v .un)[j]? = _
    by_cases e : v = j
    · subst e
      rw [if_pos List.mem_cons_self, List.getElem?_set]
      rw [if_pos rfl, wipeE_len]
      by_cases h : v < r.length
      · rw [if_pos h, List.getElem?_eq_getElem h]; rfl
      · rw [if_neg h, List.getElem?_eq_none (by omega)]; rfl
    · rw [List.getElem?_set_ne e, ih]
      by_cases h : j ∈ vs
      · rw [if_pos h, if_pos (List.mem_cons_of_mem _ h)]
      · rw [if_neg h, if_neg (by simp only [List.mem_cons, not_or]; exact ⟨fun z => e z.symm, h⟩)]
theorem backE_len (r0 r : Env) : ∀ vs : List Nat, (backE r0 vs r).length = r.length
  | [] => rfl
  | v :: vs => by
    show ((backE r0 vs r).set v _).length = _
    rw [List.length_set, backE_len r0 r vs]
theorem backE_get (r0 r : Env) (hl : r0.length = r.length) (j : Nat) : ∀ vs : List Nat, (backE r0 vs r)[j]? = if j ∈ vs then r0[j]? else r[j]?
  | [] => by simp [backE]
  | v :: vs => by
    have ih := backE_get r0 r hl j vs
    show ((backE r0 vs r).set v (r0.getD v .un))[j]? = _
    by_cases e : v = j
    · subst e
      rw [if_pos List.mem_cons_self, List.getElem?_set, if_pos rfl, backE_len, ← hl]
      by_cases h : v < r0.length
      · rw [if_pos h, List.getElem?_eq_getElem h]
        simp [h]
      · rw [if_neg h, List.getElem?_eq_none (by omega)]
    · rw [List.getElem?_set_ne e, ih]
      by_cases h : j ∈ vs
      · rw [if_pos h, if_pos (List.mem_cons_of_mem _ h)]
      · rw [if_neg h, if_neg (by simp only [List.mem_cons, not_or]; exact ⟨fun z => e z.symm, h⟩)]
theorem wipe_eq {σ σ2 : L2.St} {vs : List Nat} (hl : σ2.length = σ.length) (h : ∀ j, j ∉ vs → σ2[j]? = (wipe σ vs)[j]?) : wipe σ2 vs = wipe σ vs := by
  apply List.ext_getElem?
  intro j
  rw [wipe_get σ2, wipe_get σ]
  by_cases hj : j ∈ vs
  · rw [if_pos hj, if_pos hj]
    by_cases hb : j < σ.length
    · rw [List.getElem?_eq_getElem hb, List.getElem?_eq_getElem (by omega)]; rfl
    · rw [List.getElem?_eq_none (by omega), List.getElem?_eq_none (by omega)]
  · rw [if_neg hj, if_neg hj, h j hj, wipe_get, if_neg hj]
section
variable {K : Fg} {B : Bs} {F H : Hp} {σ : L2.St} {r : Env}
theorem wiped_mu {vs : List Nat} {j : Nat} {s : Sl} (h : (wipeE vs r)[j]? = some s) (hs : s ≠ .un) : j ∉ vs ∧ r[j]? = some s := by
  rw [wipeE_get] at h
  by_cases hj : j ∈ vs
  · rw [if_pos hj] at h
    rw [Option.map_eq_some_iff] at h
    obtain ⟨_, _, z⟩ := h
    exact absurd z.symm hs
  · rw [if_neg hj] at h
    exact ⟨hj, h⟩
theorem st_wipe (s : StR K B F H σ r) (vs : List Nat) : StR K B F H (wipe σ vs) (wipeE vs r) := by
  have sg : ∀ {j : Nat}, j ∉ vs → (wipe σ vs)[j]? = σ[j]? := fun {j} h => by rw [wipe_get, if_neg h]
  have mu : ∀ {j : Nat} {c : D}, ((wipeE vs r)[j]? = some (.own c) ∨ (wipeE vs r)[j]? = some (.bor c)) → j ∉ vs ∧ (r[j]? = some (.own c) ∨ r[j]? = some (.bor c)) := fun {j c} q => by
    rcases q with q | q
    · obtain ⟨a, b⟩ := wiped_mu q (by simp)
      exact ⟨a, .inl b⟩
    · obtain ⟨a, b⟩ := wiped_mu q (by simp)
      exact ⟨a, .inr b⟩
  refine ⟨s.sub, s.dom, by rw [wipe_length, wipeE_len, s.len], fun j d q => ?_, fun j d q => ?_, fun j d a q w => ?_, fun j d a q w => ?_, fun i j d e a q1 q2 w1 w2 => ?_, fun j q => ?_⟩
  · obtain ⟨h1, h2⟩ := wiped_mu q (by simp)
    rw [sg h1]; exact s.val j d h2
  · obtain ⟨h1, h2⟩ := mu q
    rw [sg h1]; exact s.obj j d h2
  · obtain ⟨h1, h2⟩ := wiped_mu q (by simp)
    rw [sg h1] at w; exact s.new j d a h2 w
  · obtain ⟨h1, h2⟩ := wiped_mu q (by simp)
    rw [sg h1] at w; exact s.lnt j d a h2 w
  · obtain ⟨h1, h2⟩ := mu q1
    obtain ⟨h3, h4⟩ := mu q2
    rw [sg h1] at w1
    rw [sg h3] at w2
    exact s.inj i j d e a h2 h4 w1 w2
  · obtain ⟨h1, h2⟩ := wiped_mu q (by simp)
    rw [sg h1]; exact s.pin j h2
theorem own_wipe {vs : List Nat} {a : Addr} (h : Own (wipe σ vs) (wipeE vs r) a) : Own σ r a := by
  obtain ⟨j, d, q, w⟩ := h
  have mu : j ∉ vs ∧ (r[j]? = some (.own d) ∨ r[j]? = some (.bor d)) := by
    rcases q with q | q
    · obtain ⟨a, b⟩ := wiped_mu q (by simp)
      exact ⟨a, .inl b⟩
    · obtain ⟨a, b⟩ := wiped_mu q (by simp)
      exact ⟨a, .inr b⟩
  rw [wipe_get, if_neg mu.1] at w
  exact ⟨j, d, mu.2, w⟩
/-- the object at p, that nothing knows, is another one -/
theorem st_upd {p : Addr} {o : HO} (s : StR K B F H σ r) (e : F p = none) (no : ¬ Own σ r p) (pl : Pl (H p)) (po : Pl (some o) := by first | exact pl_lst | exact pl_dK | exact pl_dT | exact pl_frz | exact pl_tup | exact pl_ob (by assumption) | exact pl_none) : StR K B F (upd H p o) σ r where
  sub := fun b u q => by
    rw [upd_ne (ne_of_none q e)]
    exact s.sub b u q
  dom := s.dom.put pl po
  len := s.len
  val := s.val
  obj := fun j d q => by
    obtain ⟨a, u, e1, e2, e3, e4⟩ := s.obj j d q
    refine ⟨a, u, e1, ?_, e3, e4⟩
    rw [upd_ne (fun z => no (by subst z; exact ⟨j, d, q, e1⟩))]
    exact e2
  new := s.new
  lnt := s.lnt
  inj := s.inj
  pin := s.pin
/-- the slots of the block's own names are what they were -/
theorem unwipe {r1 r2 : Env} {F1 H1 F2 H2 : Hp} {vs : List Nat} (s1 : StR K B F1 H1 σ r1) (s2 : StR K B F2 H2 (wipe σ vs) (wipeE vs r2)) (m : Mv (Own (wipe σ vs) (wipeE vs r1)) (Own (wipe σ vs) (wipeE vs r2)) F1 H1 F2 H2) :
    StR K B F2 H2 σ (backE r1 vs r2) ∧ Mv (Own σ r1) (Own σ (backE r1 vs r2)) F1 H1 F2 H2 := by
  have hl : r1.length = r2.length := by
    have e1 := s1.len
    have e2 := s2.len
    rw [wipe_length, wipeE_len] at e2
    omega
  have sg : ∀ {j : Nat}, j ∉ vs → (wipe σ vs)[j]? = σ[j]? := fun {j} h => by rw [wipe_get, if_neg h]
  have wg : ∀ {j : Nat}, j ∉ vs → (wipeE vs r2)[j]? = r2[j]? := fun {j} h => by rw [wipeE_get, if_neg h]
  have wg1 : ∀ {j : Nat}, j ∉ vs → (wipeE vs r1)[j]? = r1[j]? := fun {j} h => by rw [wipeE_get, if_neg h]
  have bi : ∀ {j : Nat}, j ∈ vs → (backE r1 vs r2)[j]? = r1[j]? := fun {j} h => by rw [backE_get _ _ hl, if_pos h]
  have bo : ∀ {j : Nat}, j ∉ vs → (backE r1 vs r2)[j]? = r2[j]? := fun {j} h => by rw [backE_get _ _ hl, if_neg h]
  -- an own object of the later state, its slot not hidden, was an own object of the earlier one, its slot not hidden
  have was : ∀ {j : Nat} {d : D} {a : Addr}, j ∉ vs → (r2[j]? = some (.own d) ∨ r2[j]? = some (.bor d)) → σ[j]? = some (some (.ref a)) → ∃ i c, i ∉ vs ∧ (r1[i]? = some (.own c) ∨ r1[i]? = some (.bor c)) ∧ σ[i]? = some (some (.ref a)) := fun {j d a} hj q w => by
    obtain ⟨i, c, q1, w1⟩ := m.own a ⟨j, d, by rw [wg hj]; exact q, by rw [sg hj]; exact w⟩
    have mu : i ∉ vs ∧ (r1[i]? = some (.own c) ∨ r1[i]? = some (.bor c)) := by
      rcases q1 with q1 | q1
      · obtain ⟨a, b⟩ := wiped_mu q1 (by simp)
        exact ⟨a, .inl b⟩
      · obtain ⟨a, b⟩ := wiped_mu q1 (by simp)
        exact ⟨a, .inr b⟩
    rw [sg mu.1] at w1
    exact ⟨i, c, mu.1, mu.2, w1⟩
  have hid : ∀ {j : Nat} {d : D} {a : Addr}, j ∈ vs → (r1[j]? = some (.own d) ∨ r1[j]? = some (.bor d)) → σ[j]? = some (some (.ref a)) → ¬ Own (wipe σ vs) (wipeE vs r1) a := fun {j d a} hj q w z => by
    obtain ⟨i, c, q1, w1⟩ := z
    have mu : i ∉ vs ∧ (r1[i]? = some (.own c) ∨ r1[i]? = some (.bor c)) := by
      rcases q1 with q1 | q1
      · obtain ⟨a, b⟩ := wiped_mu q1 (by simp)
        exact ⟨a, .inl b⟩
      · obtain ⟨a, b⟩ := wiped_mu q1 (by simp)
        exact ⟨a, .inr b⟩
    rw [sg mu.1] at w1
    exact mu.1 (s1.inj i j c d a mu.2 q w1 w ▸ hj)
  refine ⟨⟨s2.sub, s2.dom, by rw [backE_len, ← hl]; exact s1.len, fun j d q => ?_, fun j d q => ?_, fun j d a q w => ?_, fun j d a q w => ?_, fun i j d e a q1 q2 w1 w2 => ?_, fun j q => ?_⟩, m.mono, m.frame.less fun a z => .inl (own_wipe z), m.dom, fun a q => ?_, fun a z => ?_⟩
  · by_cases hj : j ∈ vs
    · rw [bi hj] at q
      obtain ⟨x, e1, e2⟩ := s1.val j d q
      exact ⟨x, e1, e2.mono m.mono⟩
    · rw [bo hj] at q
      have := s2.val j d (by rw [wg hj]; exact q)
      rw [sg hj] at this
      exact this
  · by_cases hj : j ∈ vs
    · rw [bi hj] at q
      obtain ⟨a, o, e1, e2, e3, e4⟩ := s1.obj j d q
      have nw := hid hj q e1
      refine ⟨a, o, e1, m.frame.at_ a o e2 nw (pl_ob e4), ?_, e4.mono m.mono⟩
      cases z : F2 a with
      | none => rfl
      | some u =>
        rcases m.fr a (by rw [z]; simp) with w | w | w
        · exact absurd e3 w
        · exact (w.ob e2 e4).elim
        · exact absurd w nw
    · rw [bo hj] at q
      have := s2.obj j d (by rw [wg hj]; exact q)
      rw [sg hj] at this
      exact this
  · by_cases hj : j ∈ vs
    · rw [bi hj] at q
      exact s1.new j d a q w
    · rw [bo hj] at q
      exact s2.new j d a (by rw [wg hj]; exact q) (by rw [sg hj]; exact w)
  · by_cases hj : j ∈ vs
    · rw [bi hj] at q
      exact s1.lnt j d a q w
    · rw [bo hj] at q
      exact s2.lnt j d a (by rw [wg hj]; exact q) (by rw [sg hj]; exact w)
  · by_cases hi : i ∈ vs
    · rw [bi hi] at q1
      by_cases hj : j ∈ vs
      · rw [bi hj] at q2
        exact s1.inj i j d e a q1 q2 w1 w2
      · rw [bo hj] at q2
        obtain ⟨i', c, n', q', w'⟩ := was hj q2 w2
        exact absurd (s1.inj i i' d c a q1 q' w1 w' ▸ hi) n'
    · rw [bo hi] at q1
      by_cases hj : j ∈ vs
      · rw [bi hj] at q2
        obtain ⟨i', c, n', q', w'⟩ := was hi q1 w1
        exact absurd (s1.inj j i' e c a q2 q' w2 w' ▸ hj) n'
      · rw [bo hj] at q2
        exact s2.inj i j d e a (by rw [wg hi]; exact q1) (by rw [wg hj]; exact q2) (by rw [sg hi]; exact w1) (by rw [sg hj]; exact w2)
  · by_cases hj : j ∈ vs
    · rw [bi hj] at q
      exact s1.pin j q
    · rw [bo hj] at q
      have := s2.pin j (by rw [wg hj]; exact q)
      rw [sg hj] at this
      exact this
  · rcases m.fr a q with w | w | w
    · exact .inl w
    · exact .inr (.inl w)
    · exact .inr (.inr (own_wipe w))
  · obtain ⟨j, d, q, w⟩ := z
    by_cases hj : j ∈ vs
    · rw [bi hj] at q
      exact ⟨j, d, q, w⟩
    · rw [bo hj] at q
      obtain ⟨i, c, _, q', w'⟩ := was hj q w
      exact ⟨i, c, q', w'⟩
end
theorem Out.mono {K : Fg} {F G H H' : Hp} {t : TV} {z : V} (s : Sub F G) (h : Out K F H t z H') : Out K G H t z H' := by
  cases h with
  | same h => exact .same (h.mono s)
  | tup n r => exact .tup n (r.mono s)
  | lst n r => exact .lst n (r.mono s)
  | obj n r => exact .obj n (r.mono s)
end Ev

end
section
set_option linter.all false
set_option maxHeartbeats 4000000
namespace Ev
open PySem PySem.Spec PyProof.Rows L2
/-- a block's state: the slots vs are its own; the new list stands at D, the items so far are ads -/
structure BlkS (K : Fg) (B : Bs) (F H : Hp) (σ : L2.St) (vs : List Nat) (r : Env) (D : Addr) (ads : List Ev.D) : Prop where
  st : StR K B F H (wipe σ vs) (wipeE vs r)
  nD : F D = none
  no : ¬ Own (wipe σ vs) (wipeE vs r) D
  acc : ∃ acc, H D = some (.lst acc) ∧ RpL K F acc ads
abbrev OD (σ : L2.St) (vs : List Nat) (r : Env) (D : Addr) : Addr → Prop := fun a => Own (wipe σ vs) (wipeE vs r) a ∨ a = D
/-- one turn -/
def TurnOk (K : Fg) (B : Bs) (σ : L2.St) (vs : List Nat) (D : Addr) (f : Ev.D → Env → Res (List Ev.D)) (T : V → Hp → (Hp → Prop) → Prop) : Prop :=
  ∀ (F H : Hp) (x : V) (d : Ev.D) (r r' : Env) (ys ads : List Ev.D) (Nx : Hp → Prop), BlkS K B F H σ vs r D ads → Rp K F x d → f d r = .ok ys r' → (ads ++ ys).length ≤ SZ →
    (∀ F' H', BlkS K B F' H' σ vs r' D (ads ++ ys) → Mv (OD σ vs r D) (OD σ vs r' D) F H F' H' → (∀ a, Own (wipe σ vs) (wipeE vs r') a → Own (wipe σ vs) (wipeE vs r) a) → Nx H') → T x H Nx
theorem compL_cons {f : D → Env → Res (List D)} {x : D} {xs ys : List D} {r rE : Env} (h : compL f (x :: xs) r = .ok ys rE) : ∃ as r' bs, f x r = .ok as r' ∧ compL f xs r' = .ok bs rE ∧ ys = as ++ bs := by
  unfold compL at h
  split at h
  · rename_i as r' e1
    split at h
    · rename_i bs r2 e2
      cases h
      exact ⟨as, r', bs, e1, e2, rfl⟩
    · cases h
  · cases h
theorem loop_gen {K : Fg} {B : Bs} {F0 F1 H1 : Hp} {σ : L2.St} {vs : List Nat} {D : Addr} {f : Ev.D → Env → Res (List Ev.D)} {T : V → Hp → (Hp → Prop) → Prop} {J : It} {xs ys ads : List Ev.D} {r1 rE : Env} {Qd : Hp → Prop}
    (hT : TurnOk K B σ vs D f T) (wk : WkD K F0 J xs) (sb0 : Sub F0 F1) (b0 : BlkS K B F1 H1 σ vs r1 D ads) (hc : compL f xs r1 = .ok ys rE) (hl : (ads ++ ys).length ≤ SZ)
    (fin : ∀ F' H', BlkS K B F' H' σ vs rE D (ads ++ ys) → Mv (OD σ vs r1 D) (OD σ vs rE D) F1 H1 F' H' → (∀ a, Own (wipe σ vs) (wipeE vs rE) a → Own (wipe σ vs) (wipeE vs r1) a) → Qd H') :
    ∃ W : Nat → Nat → Hp → Prop, (∃ m, W 0 m H1) ∧ ∀ i m H, W i m H → (J.stop i H ∧ Qd H) ∨ (J.go i H ∧ ∃ Nx : Hp → Prop, (∀ H', Nx H' → ∃ m', m' < m ∧ W (i + 1) m' H') ∧ ∀ x H', J.yld i H x H' → T x H' Nx) := by
  refine ⟨fun i m H => m = xs.length - i ∧ i ≤ xs.length ∧ ∃ F r as bs, BlkS K B F H σ vs r D (ads ++ as) ∧ Mv (OD σ vs r1 D) (OD σ vs r D) F1 H1 F H ∧ (∀ a, Own (wipe σ vs) (wipeE vs r) a → Own (wipe σ vs) (wipeE vs r1) a) ∧ compL f (xs.drop i) r = .ok bs rE ∧ as ++ bs = ys, ⟨xs.length, by simp, Nat.zero_le _, F1, r1, [], ys, by simpa using b0, Mv.refl, fun _ h => h, hc, rfl⟩, fun i m H => ?_⟩
  rintro ⟨rfl, hi, F, r, as, bs, bs0, mv, ow, hcl, hy⟩
  have sb : Sub F0 F := sb0.trans mv.mono
  by_cases hlt : i < xs.length
  · have hd : xs.drop i = xs[i] :: xs.drop (i + 1) := List.drop_eq_getElem_cons hlt
    rw [hd] at hcl
    obtain ⟨cs, r', ds, e1, e2, e3⟩ := compL_cons hcl
    refine .inr ⟨wk.goes i H hlt (sb.trans bs0.st.sub), fun H' => (∃ F' r' as' bs', BlkS K B F' H' σ vs r' D (ads ++ as') ∧ Mv (OD σ vs r1 D) (OD σ vs r' D) F1 H1 F' H' ∧ (∀ a, Own (wipe σ vs) (wipeE vs r') a → Own (wipe σ vs) (wipeE vs r1) a) ∧ compL f (xs.drop (i + 1)) r' = .ok bs' rE ∧ as' ++ bs' = ys),
      fun H' q => ⟨xs.length - (i + 1), by omega, rfl, hlt, q⟩, fun x H' y => ?_⟩
    obtain ⟨d, hd2, out⟩ := wk.yields i H x H' hlt (sb.trans bs0.st.sub) y
    have ed : d = xs[i] := by
      rw [List.getElem?_eq_getElem hlt] at hd2
      exact (Option.some.inj hd2).symm
    subst ed
    obtain ⟨F3, p3, t3⟩ := (out.mono sb).post bs0.st
    have nD3 : F3 D = none := by
      cases z : F3 D with
      | none => rfl
      | some u =>
        obtain ⟨acc, ha, _⟩ := bs0.acc
        rcases p3.fr D (by rw [z]; simp) with w | w | w
        · exact absurd bs0.nD w
        · exact (w.no ha fun _ z => nomatch z).elim
        · exact absurd w bs0.no
    have b3 : BlkS K B F3 H' σ vs r D (ads ++ as) := by
      obtain ⟨acc, ha, hr⟩ := bs0.acc
      exact ⟨p3.st, nD3, bs0.no, acc, p3.frame.at_ D _ ha bs0.no pl_lst, hr.mono p3.mono⟩
    have mv3 : Mv (OD σ vs r D) (OD σ vs r D) F H F3 H' := ⟨p3.mono, p3.frame.less fun a z => .inl (.inl z), p3.dom, fun a h => by
      rcases p3.fr a h with w | w | w
      · exact .inl w
      · exact .inr (.inl w)
      · exact .inr (.inr (.inl w)), fun _ h => h⟩
    refine hT F3 H' x _ r r' cs (ads ++ as) _ b3 t3 e1 ?_ fun F4 H4 b4 mv4 ow4 => ?_
    · have hh : ((ads ++ as) ++ cs).length ≤ (ads ++ ys).length := by
        rw [← hy, e3]
        simp only [List.length_append]
        omega
      exact Nat.le_trans hh hl
    · refine ⟨F4, r', as ++ cs, ds, by rw [← List.append_assoc]; exact b4, (mv.trans mv3).trans mv4, fun a h => ow a (ow4 a h), e2, ?_⟩
      rw [List.append_assoc, ← e3, hy]
  · have e : i = xs.length := by omega
    subst e
    rw [List.drop_length] at hcl
    cases hcl
    rw [List.append_nil] at hy
    subst hy
    exact .inl ⟨wk.stops H (sb.trans bs0.st.sub), fin F H bs0 mv ow⟩
/-- an expression's steps within a turn leave the new list as it is -/
theorem blk_keep {F H F' H' : Hp} {O O' : Addr → Prop} {D : Addr} {o : HO} (m : Mv O O' F H F' H') (hD : H D = some o) (nD : F D = none) (no : ¬ O D) (nt : ∀ xs, o ≠ .tup xs := by exact fun _ z => nomatch z) (pl : Pl (some o) := by first | exact pl_lst | exact pl_dK | exact pl_dT | exact pl_frz | exact pl_tup | exact pl_ob (by assumption) | exact pl_none) : H' D = some o ∧ F' D = none := by
  refine ⟨m.frame.at_ D o hD no pl, ?_⟩
  cases z : F' D with
  | none => rfl
  | some u =>
    rcases m.fr D (by rw [z]; simp) with w | w | w
    · exact absurd nD w
    · exact (w.no hD nt pl).elim
    · exact absurd w no
theorem Mv.withD {O O' : Addr → Prop} {F H F' H' : Hp} {D : Addr} (m : Mv O O' F H F' H') : Mv (fun a => O a ∨ a = D) (fun a => O' a ∨ a = D) F H F' H' :=
  ⟨m.mono, m.frame.less fun a z => .inl (.inl z), m.dom, fun a h => by
      rcases m.fr a h with w | w | w
      · exact .inl w
      · exact .inr (.inl w)
      · exact .inr (.inr (.inl w)), fun a h => h.elim (fun z => .inl (m.own a z)) .inr⟩
theorem nT_une {H : Hp} {a D : Addr} {o : HO} (ne : a ≠ D) : nT (upd H D o) a = nT H a := by
  unfold nT
  rw [upd_ne ne]
theorem Mv.put {O : Addr → Prop} {F H : Hp} {D : Addr} {o u : HO} (hD : H D = some u) (pl : Pl (some u) := by first | exact pl_lst | exact pl_dK | exact pl_dT | exact pl_frz | exact pl_tup | exact pl_ob (by assumption) | exact pl_none) (po : Pl (some o) := by first | exact pl_lst | exact pl_dK | exact pl_dT | exact pl_frz | exact pl_tup | exact pl_ob (by assumption) | exact pl_none) : Mv (fun a => O a ∨ a = D) (fun a => O a ∨ a = D) F H F (upd H D o) :=
  ⟨Sub.refl _, Kp.put (.inr rfl) (by rw [hD]; exact pl), fun a h => dom_put po (fun _ h => h) a h, fun a h => .inl h, fun _ h => h⟩
theorem wipeE_eq {r r2 : Env} {vs : List Nat} (hl : r2.length = r.length) (h : ∀ j, j ∉ vs → r2[j]? = (wipeE vs r)[j]?) : wipeE vs r2 = wipeE vs r := by
  apply List.ext_getElem?
  intro j
  rw [wipeE_get r2, wipeE_get r]
  by_cases hj : j ∈ vs
  · rw [if_pos hj, if_pos hj]
    by_cases hb : j < r.length
    · rw [List.getElem?_eq_getElem hb, List.getElem?_eq_getElem (by omega)]; rfl
    · rw [List.getElem?_eq_none (by omega), List.getElem?_eq_none (by omega)]
  · rw [if_neg hj, if_neg hj, h j hj, wipeE_get, if_neg hj]
/-- the element is appended -/
theorem put_item {K : Fg} {B : Bs} {F H : Hp} {σ σ2 : L2.St} {vs : List Nat} {r6 : Env} {D : Addr} {acc : List V} {ads : List Ev.D} {y : V} {v : Ev.D} (s : StR K B F H σ2 r6) (hw : wipe σ2 vs = wipe σ vs) (hD : H D = some (.lst acc)) (nD : F D = none) (hr : RpL K F acc ads) (hv : Rp K F y v)
    (no : ¬ Own (wipe σ vs) (wipeE vs r6) D) : BlkS K B F (upd H D (.lst (acc ++ [y]))) σ vs r6 D (ads ++ [v]) := by
  have sw := st_wipe s vs
  rw [hw] at sw
  exact ⟨st_upd sw nD no (by rw [hD]; exact pl_lst), nD, no, _, upd_same, hr.append (.cons hv .nil)⟩
section
variable {X : Cx} {B : Bs} {e a b c tg iter : Expr} {pos : Pos} {f g h : Env → Res TV}
theorem PTs.imp {ifs : List Expr} {t t' : TT} (h : PTs X ifs t) (w : ∀ σ H Q, t' σ H Q → t σ H Q) : PTs X ifs t' := ⟨fun pins s σ H Q I q => h.run pins s σ H Q I (w σ H Q q)⟩
theorem rt_no : PTs X [] (RdC X.K B fun r => .ok true r) := PTs.imp pts_nil fun σ H Q ⟨F, r, s, t, r', e, k⟩ => by
  cases e
  exact k F H (Post.refl s)
/-- the turn of a comprehension, behind the target's store and the tests: one item or none -/
theorem item_turn {K : Fg} {B : Bs} {σ : L2.St} {vs : List Nat} {D : Addr} {t : IT} {gt : Env → Res Bool} {ge : Env → Res TV} (hsl : ∀ i ∈ slotsT t, i ∈ vs) :
    TurnOk K B σ vs D (fun x r2 => (asn t (.d x) (wipeE vs r2)).bind fun _ r3 => (gt r3).bind fun ok r4 => match ok with
      | true => (ge r4).bind fun y r5 => (solidR r5 y).bind fun v r6 => .ok [v] r6
      | false => .ok [] r4)
     (fun x H Nx => RdG K B t x (wipe σ vs) H fun σ2 H2 => wipe σ2 vs = wipe σ vs ∧ RdC K B gt σ2 H2 fun b H3 =>
        if b = true then RdE K B ge σ2 H3 fun y H4 => ∃ acc, H4 D = some (.lst acc) ∧ acc.length < sizeLine ∧ Nx (upd H4 D (.lst (acc ++ [y]))) else Nx H3) := by
  intro F H x d r r' ys ads Nx b0 hv ef hl k
  obtain ⟨_, r3, e3, ef⟩ := bind_inv ef
  obtain ⟨ok, r4, e4, ef⟩ := bind_inv ef
  refine ⟨F, wipeE vs r, d, b0.st, hv, r3, e3, fun σ2 pa => ?_⟩
  have hw : wipe σ2 vs = wipe σ vs := wipe_eq (by rw [pa.len, wipe_length]) fun j hj => (pa.oth j fun z => hj (hsl j z)).1
  refine ⟨hw, F, r3, pa.st, ok, r4, e4, fun F4 H4 p4 => ?_⟩
  obtain ⟨acc, hD, hr⟩ := b0.acc
  have no3 : ¬ Own σ2 r3 D := fun z => b0.no (pa.own D z)
  obtain ⟨hD4, nD4⟩ := blk_keep p4.mv hD b0.nD no3
  have no4 : ¬ Own σ2 r4 D := fun z => no3 (p4.own D z)
  have m0 : Mv (Own (wipe σ vs) (wipeE vs r)) (Own σ2 r3) F H F H := Mv.less pa.own
  have hlen : ∀ q : Env, q.length = r4.length → True := fun _ _ => trivial
  cases ok with
  | true =>
    rw [if_pos rfl]
    obtain ⟨y, r5, e5, ef⟩ := bind_inv ef
    obtain ⟨v, r6, e6, ef⟩ := bind_inv ef
    cases ef
    refine ⟨F4, r4, p4.st, y, r5, e5, fun yv F5 H5 p5 t5 => ?_⟩
    obtain ⟨F6, p6, h6, _⟩ := solid_post p4.st p5 t5 (solidR_ok e6)
    obtain ⟨hD6, nD6⟩ := blk_keep p6.mv hD4 nD4 no4
    have mm : Mv (Own (wipe σ vs) (wipeE vs r)) (Own (wipe σ vs) (wipeE vs r')) F H F6 H5 := by
      refine ((m0.trans p4.mv).trans p6.mv).trans (Mv.less fun a z => ?_)
      rw [← hw] at z
      exact own_wipe z
    have no6 : ¬ Own (wipe σ vs) (wipeE vs r') D := fun z => b0.no (mm.own D z)
    have hr6 : RpL K F6 acc ads := hr.mono mm.mono
    refine ⟨acc, hD6, ?_, ?_⟩
    · rw [hr6.length, ← szl]
      have hz : (ads ++ [v]).length ≤ SZ := hl
      rw [List.length_append, List.length_cons, List.length_nil] at hz
      exact hz
    · refine k F6 _ (put_item p6.st hw hD6 nD6 hr6 h6 no6) (mm.withD.trans (Mv.put hD6)) mm.own
  | false =>
    rw [if_neg (by decide)]
    cases ef
    have mm : Mv (Own (wipe σ vs) (wipeE vs r)) (Own (wipe σ vs) (wipeE vs r')) F H F4 H4 := by
      refine (m0.trans p4.mv).trans (Mv.less fun a z => ?_)
      rw [← hw] at z
      exact own_wipe z
    have sw := st_wipe p4.st vs
    rw [hw] at sw
    refine k F4 H4 ⟨sw, nD4, fun z => b0.no (mm.own D z), acc, hD4, by rw [List.append_nil]; exact hr.mono mm.mono⟩ mm.withD mm.own
/-- behind the loop: the list is the comprehension's value -/
theorem comp_end {K : Fg} {B : Bs} {F H F1 H1 F2 H2 : Hp} {σ : L2.St} {vs : List Nat} {r r1 r2 : Env} {D : Addr} {ys : List Ev.D} (p1 : Post K B σ r F H r1 F1 H1) (hD : H1 D = none) (b : BlkS K B F2 H2 σ vs r2 D ys) (m : Mv (OD σ vs r1 D) (OD σ vs r2 D) F1 (upd H1 D (.lst [])) F2 H2)
    (ow : ∀ a, Own (wipe σ vs) (wipeE vs r2) a → Own (wipe σ vs) (wipeE vs r1) a) : Post K B σ r F H (backE r1 vs r2) F2 H2 ∧ TvR K H σ F2 H2 (.f (.list ys)) (.ref D) := by
  have mm : Mv (Own (wipe σ vs) (wipeE vs r1)) (Own (wipe σ vs) (wipeE vs r2)) F1 H1 F2 H2 := by
    refine ⟨m.mono, (Kp.new hD).trans m.frame (fun c z => z.elim .inl fun e => .inr (by rw [e]; exact nT_none hD)), fun a h => ?_, fun a h => ?_, ow⟩
    · exact m.dom a (dom_put pl_lst (fun _ h => h) a h)
    · rcases m.fr a h with w | w | w
      · exact .inl w
      · by_cases ne : a = D
        · subst ne; exact .inr (.inl (.inl (nT_none hD)))
        · unfold NT at w; rw [nT_une ne, upd_ne ne] at w; exact .inr (.inl w)
      · rcases w with w | w
        · exact .inr (.inr w)
        · subst w; exact absurd b.nD h
  obtain ⟨s2, m2⟩ := unwipe p1.st b.st mm
  obtain ⟨acc, h1, h2⟩ := b.acc
  refine ⟨p1.trans (m2.post s2), D, _, rfl, h1, b.nD, ⟨acc, rfl, h2⟩, ?_⟩
  exact Classical.byContradiction fun n => p1.dom D n (nT_none hD)
theorem comp_start {K : Fg} {B : Bs} {F1 H1 : Hp} {σ : L2.St} {vs : List Nat} {r1 : Env} {D : Addr} (s : StR K B F1 H1 σ r1) (hD : H1 D = none) : BlkS K B F1 (upd H1 D (.lst [])) σ vs r1 D [] := by
  have fD : F1 D = none := by
    cases z : F1 D with
    | none => rfl
    | some u => rw [s.sub _ _ z] at hD; cases hD
  have no : ¬ Own (wipe σ vs) (wipeE vs r1) D := fun z => by
    obtain ⟨o, e, _⟩ := s.ownH (own_wipe z)
    rw [hD] at e; cases e
  exact ⟨st_upd (st_wipe s vs) fD no (by rw [hD]; exact pl_none), fD, no, [], upd_same, .nil⟩
theorem rd_cm1 {elt : Expr} {ifs : List Expr} {scope : Scope} {own : List (Str × Nat)} {t : IT} {gi : Env → Res (List D)} {gt : Env → Res Bool} {ge : Env → Res TV} (hc : X.calm = true) (hN : X.N.Nodup) (hi : PI X tg iter (RdI X.K B gi)) (ok : BlkOk X.N X.env.scope scope own)
    (hg : ∀ (s : Shared) (H : Hp) (C : Addr) (cl : List (Str × Addr)) (fp : List Addr), PG (X.blk s H scope (compEnvC scope cl C X.env) fp) tg (RdG X.K B t)) (ht : ∀ (s : Shared) (H : Hp) (C : Addr) (cl : List (Str × Addr)) (fp : List Addr), PTs (X.blk s H scope (compEnvC scope cl C X.env) fp) ifs (RdC X.K B gt))
    (he : ∀ (s : Shared) (H : Hp) (C : Addr) (cl : List (Str × Addr)) (fp : List Addr), PE (X.blk s H scope (compEnvC scope cl C X.env) fp) elt (RdE X.K B ge)) (hs : ∀ x, foldedSetIterable iter X.env x = pure x) (hsl : ∀ i ∈ slotsT t, i ∈ own.map (·.2)) :
    (∀ σ H Q, RdE X.K B (fun r => (gi r).bind fun xs r1 =>
      match compL (fun x r2 => (asn t (.d x) (wipeE (own.map (·.2)) r2)).bind fun _ r3 =>
          (gt r3).bind fun ok r4 => match ok with
            | true => (ge r4).bind fun y r5 => (solidR r5 y).bind fun v r6 => .ok [v] r6
            | false => .ok [] r4) xs r1 with
      | .ok ys r2 => if ys.length ≤ SZ then .ok (.f (.list ys)) (backE r1 (own.map (·.2)) r2) else .stuck
      | _ => .stuck) σ H Q → tLc (RdI X.K B gi) (RdG X.K B t) (RdC X.K B gt) (RdE X.K B ge) (own.map (·.2)) σ H Q) := fun σ H Q ⟨F, r, s, tv, r', e, k⟩ => by
  obtain ⟨xs, r1, e1, e⟩ := bind_inv e
  split at e
  · rename_i ys r2 ec
    split at e
    · rename_i wl
      cases e
      refine ⟨F, r, s, xs, r1, e1, fun J F1 H1 p1 wk D hD => ?_⟩
      refine loop_gen (item_turn (σ := σ) (D := D) hsl) wk (Sub.refl _) (comp_start p1.st hD) ec (by simpa using wl) fun F2 H2 b2 mv ow => ?_
      obtain ⟨p, tv⟩ := comp_end p1 hD (by simpa using b2) mv ow
      exact k _ F2 H2 p tv
    · cases e
  · cases e
end
end Ev

end
section
set_option linter.all false
set_option maxHeartbeats 4000000
namespace Ev
open PySem PySem.Spec PyProof.Rows L2
theorem wipe_wipe {σ : L2.St} {vs ws : List Nat} (h : ∀ i ∈ ws, i ∈ vs) : wipe (wipe σ ws) vs = wipe σ vs :=
  wipe_eq (wipe_length _ _) fun j hj => by rw [wipe_get, if_neg fun z => hj (h j z), wipe_get, if_neg hj]
theorem wipeE_wipe {r : Env} {vs ws : List Nat} (h : ∀ i ∈ ws, i ∈ vs) : wipeE vs (wipeE ws r) = wipeE vs r :=
  wipeE_eq (wipeE_len _ _) fun j hj => by rw [wipeE_get, if_neg fun z => hj (h j z), wipeE_get, if_neg hj]
abbrev innerG (t2 : IT) (vs1 : List Nat) (gt2 : Env → Res Bool) (ge : Env → Res TV) : D → Env → Res (List D) := fun z r6 => (asn t2 (.d z) (wipeE vs1 r6)).bind fun _ r7 =>
                (gt2 r7).bind fun ok2 r8 => match ok2 with
                  | true => (ge r8).bind fun y r9 => (solidR r9 y).bind fun v r10 => .ok [v] r10
                  | false => .ok [] r8
theorem outer_turn {K : Fg} {B : Bs} {σ : L2.St} {vs vs1 : List Nat} {D : Addr} {t t2 : IT} {gt gt2 : Env → Res Bool} {ge : Env → Res TV} {gi2 : Env → Res (List Ev.D)} (hsl : ∀ i ∈ slotsT t, i ∈ vs) (hsl2 : ∀ i ∈ slotsT t2, i ∈ vs1) (hv : ∀ i ∈ vs1, i ∈ vs) :
    TurnOk K B σ vs D (fun x r2 => (asn t (.d x) (wipeE vs r2)).bind fun _ r3 => (gt r3).bind fun ok r4 => match ok with
      | true => (gi2 r4).bind fun zs r5 => compL (innerG t2 vs1 gt2 ge) zs r5
      | false => .ok [] r4)
     (fun x H Nx => RdG K B t x (wipe σ vs) H fun σ2 H2 => wipe σ2 vs = wipe σ vs ∧ RdC K B gt σ2 H2 fun b H3 =>
        if b = true then RdI K B gi2 σ2 H3 fun J1 H4 => ∃ W1 : Nat → Nat → Hp → Prop, (∃ m, W1 0 m H4) ∧ ∀ j k H, W1 j k H →
      (J1.stop j H ∧ Nx H) ∨ (J1.go j H ∧ ∃ Nx1 : Hp → Prop, (∀ H', Nx1 H' → ∃ k', k' < k ∧ W1 (j + 1) k' H') ∧ ∀ x H', J1.yld j H x H' → RdG K B t2 x (wipe σ2 vs1) H' fun σ3 H5 => wipe σ3 vs1 = wipe σ2 vs1 ∧ RdC K B gt2 σ3 H5 fun b H6 =>
        if b = true then RdE K B ge σ3 H6 fun y H7 => ∃ acc, H7 D = some (.lst acc) ∧ acc.length < sizeLine ∧ Nx1 (upd H7 D (.lst (acc ++ [y]))) else Nx1 H6)
        else Nx H3) := by
  intro F H x d r r' ys ads Nx b0 hv1 ef hl k
  obtain ⟨_, r3, e3, ef⟩ := bind_inv ef
  obtain ⟨ok, r4, e4, ef⟩ := bind_inv ef
  refine ⟨F, wipeE vs r, d, b0.st, hv1, r3, e3, fun σ2 pa => ?_⟩
  have hw : wipe σ2 vs = wipe σ vs := wipe_eq (by rw [pa.len, wipe_length]) fun j hj => (pa.oth j fun z => hj (hsl j z)).1
  refine ⟨hw, F, r3, pa.st, ok, r4, e4, fun F4 H4 p4 => ?_⟩
  obtain ⟨acc, hD, hr⟩ := b0.acc
  have no3 : ¬ Own σ2 r3 D := fun z => b0.no (pa.own D z)
  obtain ⟨hD4, nD4⟩ := blk_keep p4.mv hD b0.nD no3
  have no4 : ¬ Own σ2 r4 D := fun z => no3 (p4.own D z)
  have m0 : Mv (Own (wipe σ vs) (wipeE vs r)) (Own σ2 r3) F H F H := Mv.less pa.own
  cases ok with
  | true =>
    rw [if_pos rfl]
    obtain ⟨zs, r5, e5, ef⟩ := bind_inv ef
    refine ⟨F4, r4, p4.st, zs, r5, e5, fun J1 F5 H5 p5 wk => ?_⟩
    obtain ⟨hD5, nD5⟩ := blk_keep p5.mv hD4 nD4 no4
    have no5 : ¬ Own σ2 r5 D := fun z => no4 (p5.own D z)
    have m5 : Mv (Own (wipe σ vs) (wipeE vs r)) (Own σ2 r5) F H F5 H5 := (m0.trans p4.mv).trans p5.mv
    have b5 : BlkS K B F5 H5 σ2 vs1 r5 D ads := ⟨st_wipe p5.st vs1, nD5, fun z => no5 (own_wipe z), acc, hD5, hr.mono m5.mono⟩
    refine loop_gen (item_turn (σ := σ2) (vs := vs1) (D := D) hsl2) wk (Sub.refl _) b5 ef hl fun F6 H6 b6 mv ow => ?_
    have sw := st_wipe b6.st vs
    rw [wipe_wipe hv, wipeE_wipe hv, hw] at sw
    have o6 : ∀ a, Own (wipe σ vs) (wipeE vs r') a → Own (wipe σ2 vs1) (wipeE vs1 r') a := fun a z => by
      rw [← hw, ← wipe_wipe (σ := σ2) hv, ← wipeE_wipe (r := r') hv] at z
      exact own_wipe z
    have o65 : ∀ a, Own (wipe σ vs) (wipeE vs r') a → Own σ2 r5 a := fun a z => own_wipe (ow a (o6 a z))
    have oo : ∀ a, Own (wipe σ vs) (wipeE vs r') a → Own (wipe σ vs) (wipeE vs r) a := fun a z => m5.own a (o65 a z)
    refine k F6 H6 ⟨sw, b6.nD, fun z => b0.no (oo D z), b6.acc⟩ ?_ oo
    refine m5.withD.trans ((Mv.less fun a z => ?_).trans (mv.trans (Mv.less fun a z => ?_)))
    · exact z.elim (fun z => .inl (own_wipe z)) .inr
    · exact z.elim (fun z => .inl (o6 a z)) .inr
  | false =>
    rw [if_neg (by decide)]
    cases ef
    have mm : Mv (Own (wipe σ vs) (wipeE vs r)) (Own (wipe σ vs) (wipeE vs r')) F H F4 H4 := by
      refine (m0.trans p4.mv).trans (Mv.less fun a z => ?_)
      rw [← hw] at z
      exact own_wipe z
    have sw := st_wipe p4.st vs
    rw [hw] at sw
    refine k F4 H4 ⟨sw, nD4, fun z => b0.no (mm.own D z), acc, hD4, by rw [List.append_nil]; exact hr.mono mm.mono⟩ mm.withD mm.own
section
variable {X : Cx} {B : Bs} {tg iter : Expr}
theorem rd_cm2 {t t2 : IT} {vs vs1 : List Nat} {gi gi2 : Env → Res (List D)} {gt gt2 : Env → Res Bool} {ge : Env → Res TV} (hsl : ∀ i ∈ slotsT t, i ∈ vs) (hsl2 : ∀ i ∈ slotsT t2, i ∈ vs1) (hv : ∀ i ∈ vs1, i ∈ vs) :
    (∀ σ H Q, RdE X.K B (fun r => (gi r).bind fun xs r1 =>
      match compL (fun x r2 => (asn t (.d x) (wipeE vs r2)).bind fun _ r3 =>
          (gt r3).bind fun ok r4 => match ok with
            | true => (gi2 r4).bind fun zs r5 => compL (innerG t2 vs1 gt2 ge) zs r5
            | false => .ok [] r4) xs r1 with
      | .ok ys r2 => if ys.length ≤ SZ then .ok (.f (.list ys)) (backE r1 vs r2) else .stuck
      | _ => .stuck) σ H Q → tLc2 (RdI X.K B gi) (RdG X.K B t) (RdC X.K B gt) (RdI X.K B gi2) (RdG X.K B t2) (RdC X.K B gt2) (RdE X.K B ge) vs vs1 σ H Q) := fun σ H Q ⟨F, r, s, tv, r', e, k⟩ => by
  obtain ⟨xs, r1, e1, e⟩ := bind_inv e
  split at e
  · rename_i ys r2 ec
    split at e
    · rename_i wl
      cases e
      refine ⟨F, r, s, xs, r1, e1, fun J F1 H1 p1 wk D hD => ?_⟩
      refine loop_gen (outer_turn (σ := σ) (D := D) hsl hsl2 hv) wk (Sub.refl _) (comp_start p1.st hD) ec (by simpa using wl) fun F2 H2 b2 mv ow => ?_
      obtain ⟨p, tv⟩ := comp_end p1 hD (by simpa using b2) mv ow
      exact k _ F2 H2 p tv
    · cases e
  · cases e
end
end Ev

end
section
set_option linter.all false
set_option maxHeartbeats 4000000
/-! A comprehension over a list of the frame's own that stays it. -/
namespace Ev
open PySem PySem.Spec PyProof.Rows L2
theorem compO_zero {f : D → Env → Res (List D)} {i k : Nat} {r rE : Env} {ys : List D} (h : compO f i 0 k r = .ok ys rE) : ∃ xs, mutAt r i = some (.list xs) ∧ xs.length = k ∧ ys = [] ∧ r = rE := by
  unfold compO at h
  split at h
  · rename_i xs e
    split at h
    · cases h
      exact ⟨xs, e, by assumption, rfl, rfl⟩
    · cases h
  · cases h
theorem compO_succ {f : D → Env → Res (List D)} {i n k : Nat} {r rE : Env} {ys : List D} (h : compO f i (n + 1) k r = .ok ys rE) : ∃ xs x as r' bs, mutAt r i = some (.list xs) ∧ xs[k]? = some x ∧ f x r = .ok as r' ∧ compO f i n (k + 1) r' = .ok bs rE ∧ ys = as ++ bs := by
  unfold compO at h
  split at h
  · rename_i xs e
    split at h
    · rename_i x e1
      split at h
      · rename_i as r' e2
        split at h
        · rename_i bs r2 e3
          cases h
          exact ⟨xs, x, as, r', bs, e, e1, e2, e3, rfl⟩
        · cases h
      · cases h
    · cases h
  · cases h
/-- the list that a slot holds, at the slot's address -/
theorem own_list {K : Fg} {B : Bs} {F H : Hp} {σ : L2.St} {vs : List Nat} {r : Env} {D : Addr} {ads : List Ev.D} {i : Nat} {a : Addr} {xs : List Ev.D} (b : BlkS K B F H σ vs r D ads) (hi : i ∉ vs) (ha : σ[i]? = some (some (.ref a))) (hm : mutAt r i = some (.list xs)) : ∃ ws, H a = some (.lst ws) ∧ RpL K F ws xs := by
  have hw : (wipeE vs r)[i]? = r[i]? := by rw [wipeE_get, if_neg hi]
  obtain ⟨a', o, e1, e2, e3, e4⟩ := b.st.obj i (.list xs) (by
    rw [hw]
    exact mutAt_inv hm)
  rw [wipe_get, if_neg hi, ha] at e1
  cases e1
  obtain ⟨ws, rfl, hr⟩ := e4
  exact ⟨ws, e2, hr⟩
theorem loop_own {K : Fg} {B : Bs} {F1 H1 : Hp} {σ : L2.St} {vs : List Nat} {D a : Addr} {i n : Nat} {f : Ev.D → Env → Res (List Ev.D)} {T : V → Hp → (Hp → Prop) → Prop} {ys ads : List Ev.D} {r1 rE : Env} {Qd : Hp → Prop}
    (hT : TurnOk K B σ vs D f T) (hi : i ∉ vs) (ha : σ[i]? = some (some (.ref a))) (b0 : BlkS K B F1 H1 σ vs r1 D ads) (hc : compO f i n 0 r1 = .ok ys rE) (hl : (ads ++ ys).length ≤ SZ)
    (fin : ∀ F' H', BlkS K B F' H' σ vs rE D (ads ++ ys) → Mv (OD σ vs r1 D) (OD σ vs rE D) F1 H1 F' H' → (∀ a, Own (wipe σ vs) (wipeE vs rE) a → Own (wipe σ vs) (wipeE vs r1) a) → Qd H') :
    ∃ W : Nat → Nat → Hp → Prop, (∃ m, W 0 m H1) ∧ ∀ k m H, W k m H → ((Itl K a).stop k H ∧ Qd H) ∨ ((Itl K a).go k H ∧ ∃ Nx : Hp → Prop, (∀ H', Nx H' → ∃ m', m' < m ∧ W (k + 1) m' H') ∧ ∀ x H', (Itl K a).yld k H x H' → T x H' Nx) := by
  refine ⟨fun k m H => m = n - k ∧ k ≤ n ∧ ∃ F r as bs, BlkS K B F H σ vs r D (ads ++ as) ∧ Mv (OD σ vs r1 D) (OD σ vs r D) F1 H1 F H ∧ (∀ a, Own (wipe σ vs) (wipeE vs r) a → Own (wipe σ vs) (wipeE vs r1) a) ∧ compO f i (n - k) k r = .ok bs rE ∧ as ++ bs = ys, ⟨n, by simp, Nat.zero_le _, F1, r1, [], ys, by simpa using b0, Mv.refl, fun _ h => h, hc, rfl⟩, fun k m H => ?_⟩
  rintro ⟨rfl, hk, F, r, as, bs, bs0, mv, ow, hcl, hy⟩
  by_cases hlt : k < n
  · rw [show n - k = (n - (k + 1)) + 1 by omega] at hcl
    obtain ⟨xs, d, cs, r', ds, e0, e1, e2, e3, e4⟩ := compO_succ hcl
    obtain ⟨ws, hH, hr⟩ := own_list bs0 hi ha e0
    have hkl : k < ws.length := by
      rw [hr.length]
      exact (List.getElem?_eq_some_iff.mp e1).1
    refine .inr ⟨walk_list.goes k H hkl (SqL.of hH), fun H' => (∃ F' r' as' bs', BlkS K B F' H' σ vs r' D (ads ++ as') ∧ Mv (OD σ vs r1 D) (OD σ vs r' D) F1 H1 F' H' ∧ (∀ a, Own (wipe σ vs) (wipeE vs r') a → Own (wipe σ vs) (wipeE vs r1) a) ∧ compO f i (n - (k + 1)) (k + 1) r' = .ok bs' rE ∧ as' ++ bs' = ys),
      fun H' q => ⟨n - (k + 1), by omega, rfl, hlt, q⟩, fun x H' y => ?_⟩
    obtain ⟨rfl, hx⟩ := walk_list.yields k H x H' hkl (SqL.of hH) y
    obtain ⟨d', hd1, hd2⟩ := hr.getv k x hx
    rw [e1] at hd1
    cases hd1
    refine hT F H' x _ r r' cs (ads ++ as) _ bs0 hd2 e2 ?_ fun F4 H4 b4 mv4 ow4 => ?_
    · have hh : ((ads ++ as) ++ cs).length ≤ (ads ++ ys).length := by
        rw [← hy, e4]
        simp only [List.length_append]
        omega
      exact Nat.le_trans hh hl
    · refine ⟨F4, r', as ++ cs, ds, by rw [← List.append_assoc]; exact b4, mv.trans mv4, fun a h => ow a (ow4 a h), e3, ?_⟩
      rw [List.append_assoc, ← e4, hy]
  · have e : k = n := by omega
    subst e
    rw [Nat.sub_self] at hcl
    obtain ⟨xs, e0, e1, e2, e3⟩ := compO_zero hcl
    subst e2; subst e3
    rw [List.append_nil] at hy
    subst hy
    obtain ⟨ws, hH, hr⟩ := own_list bs0 hi ha e0
    have hs := walk_list.stops H (SqL.of (K := K) hH)
    rw [hr.length, e1] at hs
    exact .inl ⟨hs, fin F H bs0 mv ow⟩
section
variable {X : Cx} {B : Bs} {tg iter : Expr}
abbrev cmoG (own : List (Str × Nat)) (t : IT) (i : Nat) (gt : Env → Res Bool) (ge : Env → Res TV) : Env → Res TV := fun r => match mutAt r i with
    | some (.list xs) => if (own.map (·.2)).contains i = true then .stuck else
      match compO (fun x r2 => (asn t (.d x) (wipeE (own.map (·.2)) r2)).bind fun _ r3 =>
          (gt r3).bind fun ok r4 => match ok with
            | true => (ge r4).bind fun y r5 => (solidR r5 y).bind fun v r6 => .ok [v] r6
            | false => .ok [] r4) i xs.length 0 r with
      | .ok ys r2 => if ys.length ≤ SZ then .ok (.f (.list ys)) (backE r (own.map (·.2)) r2) else .stuck
      | _ => .stuck
    | _ => .stuck
theorem var_own (call : Nat → List Sl → CR) {r : Env} {i : Nat} {d : D} (h : mutAt r i = some d) : (ev call (.var i)).1 r = .ok (.s i) r := by
  show (match r[i]? with
    | some (.val d) => Res.ok (TV.d d) r
    | some (.own _) => .ok (.s i) r
    | some (.bor _) => .ok (.s i) r
    | _ => .stuck) = _
  rcases mutAt_inv h with h | h
  · rw [h]
  · rw [h]
theorem rd_cmo {own : List (Str × Nat)} {t : IT} {i : Nat} {gt : Env → Res Bool} {ge : Env → Res TV} (call : Nat → List Sl → CR) (hsl : ∀ i ∈ slotsT t, i ∈ own.map (·.2)) :
    ∀ σ H Q, RdE X.K B (cmoG own t i gt ge) σ H Q → tLc (iList X.K (RdE X.K B (ev call (.var i)).1)) (RdG X.K B t) (RdC X.K B gt) (RdE X.K B ge) (own.map (·.2)) σ H Q := fun σ H Q ⟨F, r, s, tv, r', e, k⟩ => by
  unfold cmoG at e
  split at e
  · rename_i xs hm
    split at e
    · cases e
    · rename_i hn
      have hni : i ∉ own.map (·.2) := fun z => hn (by rw [List.contains_iff_mem]; exact z)
      split at e
      · rename_i ys r2 ec
        split at e
        · rename_i wl
          cases e
          refine ⟨F, r, s, .s i, r, var_own call hm, fun x F1 H1 p1 t1 => ?_⟩
          have t1 : σ[i]? = some (some x) := t1
          obtain ⟨a, o, e1, e2, e3, e4⟩ := p1.st.obj i (.list xs) (mutAt_inv hm)
          rw [t1] at e1
          cases e1
          obtain ⟨ws, rfl, hr⟩ := e4
          refine ⟨a, rfl, ⟨ws, SqL.of e2⟩, fun D hD => ?_⟩
          refine loop_own (item_turn (σ := σ) (D := D) hsl) hni t1 (comp_start p1.st hD) ec (by simpa using wl) fun F2 H2 b2 mv ow => ?_
          obtain ⟨p, tv⟩ := comp_end p1 hD (by simpa using b2) mv ow
          exact k _ F2 H2 p tv
        · cases e
      · cases e
  · cases e
end
end Ev

end
section
set_option linter.all false
set_option maxHeartbeats 2000000
namespace Ev
open PySem PySem.Spec PyProof.Rows L2
theorem keyIs_D (k k' : Key) : Ev.keyIs (keyD k) (keyD k') = decide (k = k') := by
  cases k <;> cases k' <;> simp [keyD, Ev.keyIs] <;> rfl
theorem RpK.look {K : Fg} {F : Hp} (k : Key) : ∀ {kvs : List (Key × V)} {ps : List (D × D)}, RpK K F kvs ps → (lookD ps (keyD k) = none ∧ valV kvs k = none) ∨ ∃ d v, lookD ps (keyD k) = some d ∧ valV kvs k = some v ∧ Rp K F v d
  | _, _, .nil => .inl ⟨rfl, rfl⟩
  | _, _, .cons (k := k') (v := v) (d := d) (kvs := kvs) (ps := ps) h r => by
    by_cases e : k' = k
    · subst e
      refine .inr ⟨d, v, ?_, valV_pos rfl, h⟩
      show (if Ev.keyIs (keyD k') (keyD k') = true then some d else _) = _
      rw [keyIs_D, decide_eq_true rfl, if_pos rfl]
    · have e1 : lookD ((keyD k', d) :: ps) (keyD k) = lookD ps (keyD k) := by
        show (if Ev.keyIs (keyD k') (keyD k) = true then some d else _) = _
        rw [keyIs_D, decide_eq_false e, if_neg (by decide)]
      rw [e1, valV_neg (p := (k', v)) e]
      exact RpK.look k r
theorem RpK.any {K : Fg} {F : Hp} (k : Key) : ∀ {kvs : List (Key × V)} {ps : List (D × D)}, RpK K F kvs ps → (ps.any fun p => Ev.keyIs p.1 (keyD k)) = kvs.any fun kv => decide (kv.1 = k)
  | _, _, .nil => rfl
  | _, _, .cons h r => by
    rw [List.any_cons, List.any_cons, RpK.any k r, keyIs_D]
theorem RpK.app {K : Fg} {F : Hp} : ∀ {kvs lvs : List (Key × V)} {ps qs : List (D × D)}, RpK K F kvs ps → RpK K F lvs qs → RpK K F (kvs ++ lvs) (ps ++ qs)
  | _, _, _, _, .nil, r => r
  | _, _, _, _, .cons h r, q => .cons h (RpK.app r q)
theorem RpK.repl {K : Fg} {F : Hp} (k : Key) {v : V} {d : D} (hv : Rp K F v d) : ∀ {kvs : List (Key × V)} {ps : List (D × D)}, RpK K F kvs ps →
    RpK K F (kvs.map (fun kv => if kv.1 = k then (kv.1, v) else kv)) (ps.map (fun p => if Ev.keyIs p.1 (keyD k) = true then (p.1, d) else p))
  | _, _, .nil => .nil
  | _, _, .cons (k := k') h r => by
    have ih := RpK.repl k hv r
    rw [List.map_cons, List.map_cons]
    by_cases e : k' = k
    · subst e
      rw [if_pos rfl, keyIs_D, decide_eq_true rfl, if_pos rfl]
      exact .cons hv ih
    · rw [if_neg e, keyIs_D, decide_eq_false e, if_neg (by decide)]
      exact .cons h ih
theorem RpK.put {K : Fg} {F : Hp} {kvs : List (Key × V)} {ps : List (D × D)} (r : RpK K F kvs ps) (k : Key) {v : V} {d : D} (hv : Rp K F v d) : RpK K F (putK kvs k v) (putD ps (keyD k) d) := by
  unfold putK putD
  rw [r.any k]
  split
  · exact r.repl k hv
  · exact r.app (.cons hv .nil)
theorem key_of_isKey {d : D} (h : isKey d = true) : ∃ k : Key, d = keyD k := by
  cases d <;> first | (exact ⟨.inl _, rfl⟩) | (exact ⟨.inr _, rfl⟩) | (simp [isKey] at h)
theorem rq_key {K : Fg} {F H : Hp} {y : V} {k : Key} (h : Rq K F H y (keyD k)) : y = kV k := by
  cases k with
  | inl i => exact h.int
  | inr x => exact h.str
theorem Rq.dic {K : Fg} {F H : Hp} {x : V} {ps : List (D × D)} (s : Sub F H) (h : Rq K F H x (.dict ps)) (hk : ps.all (fun p => isKey p.1) = true) : ∃ a kvs, x = .ref a ∧ Rd H a (.dK kvs) ∧ RpK K F kvs ps := by
  rcases h with h | ⟨a, o, e, e1, e2⟩
  · cases h with
    | dic h1 h2 => exact ⟨_, _, rfl, s.rd h1, h2⟩
    | dit h1 h2 => simp [isKey] at hk
    | scr h1 h2 => simp [isKey] at hk
  · rcases e2 with ⟨kvs, e3, h2⟩ | ⟨kvs, qs, e0, e3, h2⟩
    · subst e3
      exact ⟨_, _, e, .inl e1, h2⟩
    · subst e0
      simp [isKey] at hk
theorem isD_of {K : Fg} {F H : Hp} {x : V} {d : D} (s : Sub F H) (h : Rq K F H x d) (hd : isDict d = true) : ∃ a, x = .ref a ∧ IsD H a := by
  rcases h with h | ⟨a, o, e, e1, e2⟩
  · cases h <;> first
      | (rename_i h1 h2; exact ⟨_, rfl, .inl ⟨_, s.rd h1⟩⟩)
      | (rename_i h1 h2; exact ⟨_, rfl, .inr ⟨_, s.rd h1⟩⟩)
      | (simp [isDict] at hd)
  · cases d with
    | dict ps =>
      rcases e2 with ⟨kvs, e3, h2⟩ | ⟨kvs, qs, e0, e3, h2⟩
      · subst e3; exact ⟨a, e, .inl ⟨_, .inl e1⟩⟩
      · subst e3; exact ⟨a, e, .inr ⟨_, .inl e1⟩⟩
    | list l => simp [isDict] at hd
    | none => exact e2.elim
    | bool b => exact e2.elim
    | int i => exact e2.elim
    | str s => exact e2.elim
    | tuple l => exact e2.elim
theorem dictR_inv {r r' : Env} {t : TV} (h : dictR r t = .ok () r') : ∃ u, deref r t = some u ∧ isDict u = true ∧ r = r' := by
  unfold dictR at h
  split at h
  · rename_i u hu
    split at h
    · rename_i w
      cases h
      exact ⟨u, hu, w, rfl⟩
    · cases h
  · cases h
theorem keysEq_D : ∀ k k' : List Key, keysEq (k.map keyD) (k'.map keyD) = decide (k = k')
  | [], [] => rfl
  | [], _ :: _ => rfl
  | _ :: _, [] => rfl
  | a :: k, b :: k' => by
    show (Ev.keyIs (keyD a) (keyD b) && keysEq (k.map keyD) (k'.map keyD)) = _
    rw [keyIs_D, keysEq_D k k']
    by_cases h1 : a = b
    · by_cases h2 : k = k'
      · simp [h1, h2]
      · simp [h1, h2]
    · simp [h1]
theorem tkIs_D (k k' : List Key) : tkIs (keyTD k) (k'.map keyD) = decide (k = k') := keysEq_D k k'
section
variable {K : Fg} {F : Hp}
theorem RpT.look (k : List Key) : ∀ {kvs : List (List Key × V)} {ps : List (D × D)}, RpT K F kvs ps → (lookT ps (k.map keyD) = none ∧ valV kvs k = none) ∨ ∃ d v, lookT ps (k.map keyD) = some d ∧ valV kvs k = some v ∧ Rp K F v d
  | _, _, .nil => .inl ⟨rfl, rfl⟩
  | _, _, .cons (k := k') (v := v) (d := d) (kvs := kvs) (ps := ps) h r => by
    by_cases e : k' = k
    · subst e
      refine .inr ⟨d, v, ?_, valV_pos rfl, h⟩
      show (if tkIs (keyTD k') (k'.map keyD) = true then some d else _) = _
      rw [tkIs_D, decide_eq_true rfl, if_pos rfl]
    · have e1 : lookT ((keyTD k', d) :: ps) (k.map keyD) = lookT ps (k.map keyD) := by
        show (if tkIs (keyTD k') (k.map keyD) = true then some d else _) = _
        rw [tkIs_D, decide_eq_false e, if_neg (by decide)]
      rw [e1, valV_neg (p := (k', v)) e]
      exact RpT.look k r
theorem RpT.any (k : List Key) : ∀ {kvs : List (List Key × V)} {ps : List (D × D)}, RpT K F kvs ps → (ps.any fun p => tkIs p.1 (k.map keyD)) = kvs.any fun kv => decide (kv.1 = k)
  | _, _, .nil => rfl
  | _, _, .cons h r => by
    rw [List.any_cons, List.any_cons, RpT.any k r, tkIs_D]
theorem RpT.app : ∀ {kvs lvs : List (List Key × V)} {ps qs : List (D × D)}, RpT K F kvs ps → RpT K F lvs qs → RpT K F (kvs ++ lvs) (ps ++ qs)
  | _, _, _, _, .nil, r => r
  | _, _, _, _, .cons h r, q => .cons h (RpT.app r q)
theorem RpT.repl (k : List Key) {v : V} {d : D} (hv : Rp K F v d) : ∀ {kvs : List (List Key × V)} {ps : List (D × D)}, RpT K F kvs ps →
    RpT K F (kvs.map (fun kv => if kv.1 = k then (kv.1, v) else kv)) (ps.map (fun p => if tkIs p.1 (k.map keyD) = true then (p.1, d) else p))
  | _, _, .nil => .nil
  | _, _, .cons (k := k') h r => by
    have ih := RpT.repl k hv r
    rw [List.map_cons, List.map_cons]
    by_cases e : k' = k
    · subst e
      rw [if_pos rfl, tkIs_D, decide_eq_true rfl, if_pos rfl]
      exact .cons hv ih
    · rw [if_neg e, tkIs_D, decide_eq_false e, if_neg (by decide)]
      exact .cons h ih
theorem RpT.put {kvs : List (List Key × V)} {ps : List (D × D)} (r : RpT K F kvs ps) (k : List Key) {v : V} {d : D} (hv : Rp K F v d) : RpT K F (putK kvs k v) (putT ps (k.map keyD) d) := by
  unfold putK putT
  rw [r.any k]
  split
  · exact r.repl k hv
  · exact r.app (.cons hv .nil)
theorem keysL {xs : List V} {ds : List D} (h : RpL K F xs ds) (hk : ds.all isKey = true) : ∃ ks : List Key, ds = ks.map keyD ∧ xs = ks.map kV := by
  induction ds generalizing xs with
  | nil => cases h; exact ⟨[], rfl, rfl⟩
  | cons d ds ih =>
    rw [List.all_cons, Bool.and_eq_true] at hk
    cases h with
    | cons h1 h2 =>
      obtain ⟨k, rfl⟩ := key_of_isKey hk.1
      obtain ⟨ks, e1, e2⟩ := ih h2 hk.2
      have ek := rq_key (H := F) (Or.inl h1 : Rq K F F _ (keyD k))
      exact ⟨k :: ks, by rw [e1]; rfl, by rw [e2, ek]; rfl⟩
end
section
variable {K : Fg} {F H : Hp}
theorem Rq.dit {x : V} {ps : List (D × D)} (s : Sub F H) (h : Rq K F H x (.dict ((.none, .int 0) :: ps))) : ∃ a kvs, x = .ref a ∧ Rd H a (.dT kvs) ∧ RpT K F kvs ps := by
  rcases h with h | ⟨a, o, e, e1, e2⟩
  · generalize hq : (((PyData.none, PyData.int 0) :: ps) : List (D × D)) = q at h
    cases h with
    | dic h1 h2 =>
      cases h2 with
      | nil => cases hq
      | @cons k v d kvs ps' h3 h4 =>
        have h5 : PyData.none = keyD k := by
          injection hq with h6
          exact congrArg Prod.fst h6
        cases k <;> cases h5
    | dit h1 h2 =>
      injection hq with _ h6
      subst h6
      exact ⟨_, _, rfl, s.rd h1, h2⟩
    | scr h1 h2 =>
      injection hq with h6 _
      injection h6 with _ h6
      cases h6
  · rcases e2 with ⟨kvs, e3, h2⟩ | ⟨kvs, qs, e0, e3, h2⟩
    · generalize hq : (((PyData.none, PyData.int 0) :: ps) : List (D × D)) = q at h2
      cases h2 with
      | nil => cases hq
      | @cons k v d kvs ps' h3 h4 =>
        have h5 : PyData.none = keyD k := by
          injection hq with h6
          exact congrArg Prod.fst h6
        cases k <;> cases h5
    · injection e0 with _ e0
      subst e0 e3
      exact ⟨a, kvs, e, .inl e1, h2⟩
/-- the frame's own one -/
theorem ditO {a : Addr} {o : HO} {ps : List (D × D)} (hb : H a = some o) (h : ObR K F o (.dict ((.none, .int 0) :: ps))) : ∃ a' kvs, V.ref a = .ref a' ∧ H a' = some (.dT kvs) ∧ RpT K F kvs ps := by
  rcases h with ⟨kvs, e3, h2⟩ | ⟨kvs, qs, e0, e3, h2⟩
  · generalize hq : (((PyData.none, PyData.int 0) :: ps) : List (D × D)) = q at h2
    cases h2 with
    | nil => cases hq
    | @cons k v d kvs ps' h3 h4 =>
      have h5 : PyData.none = keyD k := by
        injection hq with h6
        exact congrArg Prod.fst h6
      cases k <;> cases h5
  · injection e0 with _ e0
    subst e0 e3
    exact ⟨a, kvs, rfl, hb, h2⟩
end
end Ev

end
section
set_option linter.all false
set_option maxHeartbeats 4000000
namespace Ev
open PySem PySem.Spec PyProof.Rows L2
theorem isKeyT_keys {ks : List D} (h : isKeyT ks = true) : ks.all isKey = true := by
  unfold isKeyT at h
  rw [Bool.and_eq_true] at h
  exact h.1
/-- a key that is a tuple stands in the heap -/
theorem Rq.ktup {K : Fg} {F H : Hp} {y : V} {ks : List D} (s : Sub F H) (h : Rq K F H y (.tuple ks)) (hk : isKeyT ks = true) : ∃ (b : Addr) (kk : List Key), y = .ref b ∧ H b = some (.tup (kk.map kV)) ∧ ks = kk.map keyD := by
  obtain ⟨b, xs, e, t, r⟩ := h.tup
  rcases t with t | ⟨_, t⟩
  · obtain ⟨kk, e1, e2⟩ := keysL r (isKeyT_keys hk)
    subst e1 e2
    exact ⟨b, kk, e, s _ _ t, rfl⟩
  · rw [hk] at t; cases t
/-- what d.get finds -/
theorem dget_of {K : Fg} {F H : Hp} {x y : V} {a : Addr} {u v : D} {t : Option D} (s : Sub F H) (hx : Rq K F H x u) (ex : x = .ref a) (hy : Rq K F H y v) (e : getD1 u v = some t) :
    ∃ o, DGet H a y o ∧ ((t = none ∧ o = none) ∨ ∃ d w, t = some d ∧ o = some w ∧ Rp K F w d) := by
  unfold getD1 at e
  split at e
  · rename_i ps ks
    split at e
    · rename_i hk
      unfold getT at e
      split at e
      · rename_i ps2 ks2 eu
        cases eu
        split at e
        · cases e
          obtain ⟨b, kk, rfl, hb, rfl⟩ := Rq.ktup s hy hk
          obtain ⟨a', kvs, e1, e2, e3⟩ := Rq.dit s hx
          rw [ex] at e1
          cases e1
          refine ⟨valV kvs kk, .inr ⟨kvs, kk, b, e2, rfl, hb, rfl⟩, ?_⟩
          rcases e3.look kk with ⟨h1, h2⟩ | ⟨d, w', h1, h2, h3⟩
          · exact .inl ⟨h1, h2⟩
          · exact .inr ⟨d, w', h1, h2, h3⟩
        · cases e
      · cases e
    · cases e
  · rename_i ps k _
    split at e
    · rename_i w
      rw [Bool.and_eq_true] at w
      cases e
      obtain ⟨k, rfl⟩ := key_of_isKey w.1
      obtain ⟨a', kvs, e1, e2, e3⟩ := hx.dic s w.2
      rw [ex] at e1
      cases e1
      have ey := rq_key hy
      subst ey
      refine ⟨valV kvs k, .inl ⟨kvs, k, e2, rfl, rfl⟩, ?_⟩
      rcases e3.look k with ⟨h1, h2⟩ | ⟨d, w', h1, h2, h3⟩
      · exact .inl ⟨h1, h2⟩
      · exact .inr ⟨d, w', h1, h2, h3⟩
    · cases e
  · cases e
def baseB : Expr → Bool
  | .Call _ _ _ _ => false
  | _ => true
section
variable {X : Cx} {B : Bs} {o e k d : Expr} {apos cpos pos : Pos} {f g h : Env → Res TV}
theorem base_ok {m : Str} {env : PySem.Env} (hb : baseB o = true) : attributeBase o m env (eval o env) = eval o env := by
  cases o <;> first | rfl | (simp [baseB] at hb)
theorem back_one {env : PySem.Env} (hp : plainE e = true) : backTo cpos (starEach [e] env) = [(false, eval e env)] := by
  rw [star_cons hp]; rfl
theorem back_two {env : PySem.Env} (hp : plainE e = true) (hp2 : plainE d = true) : backTo cpos (starEach [e, d] env) = [(false, eval e env), (false, eval d env)] := by
  rw [star_cons hp, star_cons hp2]; rfl
theorem m1_ok {m : Str} (hb : baseB o = true) (hp : plainE e = true) (hl : (apos.endLine == cpos.line) = true) : M1 X o m apos e cpos :=
  ⟨base_ok hb, by rw [back_one hp]; rfl, hl, back_one hp⟩
theorem m2_ok {m : Str} (hb : baseB o = true) (hp : plainE e = true) (hp2 : plainE d = true) (hl : (apos.endLine == cpos.line) = true) : M2 X o m apos e d cpos :=
  ⟨base_ok hb, by rw [back_two hp hp2]; rfl, hl, back_two hp hp2⟩
theorem rd_mg1 (hu : X.A.units + 1 < cLine) (hb : baseB o = true) (hp : plainE k = true) (hl : (apos.endLine == cpos.line) = true) (ho : PE X o (RdE X.K B f)) (hk : PE X k (RdE X.K B g)) :
    PE X (.Call (.Attribute o "get" apos) [k] [] cpos) (RdE X.K B fun r => (f r).bind fun x r1 => (dictR r1 x).bind fun _ r1 => (g r1).bind fun y r2 =>
      match deref r2 x, deref r2 y with
      | some u, some v => .of ((getD1 u v).map fun t => .d (t.getD .none)) r2
      | _, _ => .stuck) := by
  refine PE.imp (pe_dget1 hu ho hk (m1_ok hb hp hl)) fun σ H Q ⟨F, r, s, t, r', e, c⟩ => ?_
  obtain ⟨x, r1, e1, ea⟩ := bind_inv e
  obtain ⟨_, r1', e0, eb⟩ := bind_inv ea
  obtain ⟨u0, z0, w0, rfl⟩ := dictR_inv e0
  clear e ea
  obtain ⟨y, r2, e2, e⟩ := bind_inv eb
  refine ⟨F, r, s, x, r1, e1, fun xv F1 H1 p1 t1 => ?_⟩
  obtain ⟨a, ea, da⟩ := isD_of p1.st.sub (deref_rq p1.st t1 z0) w0
  refine ⟨a, ea, da, F1, r1, p1.st, y, r2, e2, fun yv F2 H2 p2 t2 => ?_⟩
  have t1' := t1.keep p2 (p1.ne s)
  split at e
  · rename_i u v z1 z2
    obtain ⟨e3, rfl⟩ := of_inv e
    rw [Option.map_eq_some_iff] at e3
    obtain ⟨tt, e3, rfl⟩ := e3
    obtain ⟨ov, g1, g2⟩ := dget_of p2.st.sub (deref_rq p2.st t1' z1) ea (deref_rq p2.st t2 z2) e3
    refine ⟨ov, g1, c _ F2 H2 (p1.trans p2) ?_⟩
    rcases g2 with ⟨rfl, rfl⟩ | ⟨dd, w, rfl, rfl, hw⟩
    · exact .non
    · exact hw
  · cases e
theorem rd_mg2 (hu : X.A.units + 1 < cLine) (hb : baseB o = true) (hp : plainE k = true) (hp2 : plainE d = true) (hl : (apos.endLine == cpos.line) = true) (ho : PE X o (RdE X.K B f)) (hk : PE X k (RdE X.K B g)) (hd : PE X d (RdE X.K B h)) :
    PE X (.Call (.Attribute o "get" apos) [k, d] [] cpos) (RdE X.K B fun r => (f r).bind fun x r1 => (dictR r1 x).bind fun _ r1 => (g r1).bind fun y r2 => (h r2).bind fun z r3 => (solidR r3 z).bind fun w r4 =>
      match deref r4 x, deref r4 y with
      | some u, some v => .of ((getD1 u v).map fun t => .d (t.getD w)) r4
      | _, _ => .stuck) := by
  refine PE.imp (pe_dget2 hu ho hk hd (m2_ok hb hp hp2 hl)) fun σ H Q ⟨F, r, s, t, r', e, c⟩ => ?_
  obtain ⟨x, r1, e1, ea⟩ := bind_inv e
  obtain ⟨_, r1', e0, eb⟩ := bind_inv ea
  obtain ⟨u0, z0, w0, rfl⟩ := dictR_inv e0
  clear e ea
  obtain ⟨y, r2, e2, ec⟩ := bind_inv eb
  obtain ⟨z, r3, e3, ed⟩ := bind_inv ec
  obtain ⟨w, r4, e4, e⟩ := bind_inv ed
  refine ⟨F, r, s, x, r1, e1, fun xv F1 H1 p1 t1 => ?_⟩
  obtain ⟨a, ea, da⟩ := isD_of p1.st.sub (deref_rq p1.st t1 z0) w0
  refine ⟨a, ea, da, F1, r1, p1.st, y, r2, e2, fun yv F2 H2 p2 t2 => ⟨F2, r2, p2.st, z, r3, e3, fun zv F3 H3 p3 t3 => ?_⟩⟩
  obtain ⟨F4, p4, h4, _⟩ := solid_post p2.st p3 t3 (solidR_ok e4)
  have t1' := (t1.keep p2 (p1.ne s)).keep p4 fun a q => p1.ne s a (p2.own a q)
  have t2' := t2.keep p4 (p2.ne p1.st)
  split at e
  · rename_i u v z1 z2
    obtain ⟨e5, rfl⟩ := of_inv e
    rw [Option.map_eq_some_iff] at e5
    obtain ⟨tt, e5, rfl⟩ := e5
    obtain ⟨ov, g1, g2⟩ := dget_of p4.st.sub (deref_rq p4.st t1' z1) ea (deref_rq p4.st t2' z2) e5
    refine ⟨ov, g1, c _ F4 H3 ((p1.trans p2).trans p4) ?_⟩
    rcases g2 with ⟨rfl, rfl⟩ | ⟨dd, w', rfl, rfl, hw⟩
    · exact h4
    · exact hw
  · cases e
end
end Ev

end
section
set_option linter.all false
set_option maxHeartbeats 2000000
namespace Ev
open PySem PySem.Spec PyProof.Rows L2
def keyC : Const → Key
  | .int i => .inl i
  | .str x => .inr x
  | _ => .inl 0
def keyCB : Const → Bool
  | .int _ => true
  | .str _ => true
  | _ => false
inductive PV (X : Cx) (B : Bs) (call : Nat → List Sl → CR) : List (Option Expr) → List Expr → List Const → IA → List (TE × TE) → Prop
  | nil : PV X B call [] [] [] .nil []
  | cons {k v : Expr} {ks : List (Option Expr)} {vs : List Expr} {c : Const} {cs : List Const} {a : IE} {l : IA} {trs : List (TE × TE)} : PE X k (tC (kV (keyC c))) → PE X v (RdE X.K B (ev call a).1) → PV X B call ks vs cs l trs →
      PV X B call (some k :: ks) (v :: vs) (c :: cs) (.cons a l) ((tC (kV (keyC c)), RdE X.K B (ev call a).1) :: trs)
section
variable {X : Cx} {B : Bs} {call : Nat → List Sl → CR} {pos : Pos}
theorem PV.pps : ∀ {ks : List (Option Expr)} {vs : List Expr} {cs : List Const} {l : IA} {trs : List (TE × TE)}, PV X B call ks vs cs l trs → PPs X pos ks vs trs
  | _, _, _, _, _, .nil => pps_nil
  | _, _, _, _, _, .cons h1 h2 r => pps_cons h1 h2 r.pps
theorem PV.pairs : ∀ {ks : List (Option Expr)} {vs : List Expr} {cs : List Const} {l : IA} {trs : List (TE × TE)}, PV X B call ks vs cs l trs → ∀ {σ : L2.St} {H : Hp} {Q : List (V × V) → Hp → Prop},
    RdA X.K B (evA call l) σ H (fun xs H' => xs.length = cs.length → Q ((cs.zip xs).map fun p => (kV (keyC p.1), p.2)) H') → tPairs trs σ H Q
  | _, _, _, _, _, .nil, σ, H, Q, ⟨F, r, s, t, r', e, k⟩ => by
    cases (show Res.ok [] r = Res.ok t r' from e)
    exact k [] F H (Post.refl s) .nil rfl
  | _, _, _, _, _, .cons (c := c) (cs := cs) (l := l) h1 h2 rest, σ, H, Q, ⟨F, r, s, t, r', e, k⟩ => by
    obtain ⟨x, r1, e1, e⟩ := bind_inv e
    obtain ⟨v, r2, e2, e⟩ := bind_inv e
    obtain ⟨vs, r3, e3, e⟩ := bind_inv e
    cases e
    refine ⟨F, r, s, x, r1, e1, fun xv F1 H1 p1 t1 => ?_⟩
    obtain ⟨F2, p2, hv, m2⟩ := solid_post s p1 t1 (solidR_ok e2)
    refine rest.pairs ⟨F2, r2, p2.st, vs, r', e3, fun xs F3 H3 p3 h3 hl => ?_⟩
    exact k (xv :: xs) F3 H3 (p2.trans p3) (.cons (hv.mono p3.mono) h3) (by rw [List.length_cons, List.length_cons, hl])
theorem PV.len : ∀ {ks : List (Option Expr)} {vs : List Expr} {cs : List Const} {l : IA} {trs : List (TE × TE)}, PV X B call ks vs cs l trs → ks.length = vs.length ∧ ks.length = cs.length ∧ ks.all (·.isSome) = true
  | _, _, _, _, _, .nil => ⟨rfl, rfl, rfl⟩
  | _, _, _, _, _, .cons h1 h2 r => by
    obtain ⟨a, b, c⟩ := r.len
    exact ⟨by rw [List.length_cons, List.length_cons, a], by rw [List.length_cons, List.length_cons, b], by rw [List.all_cons, c]; rfl⟩
def dstep (ps : List (D × D)) (p : Const × D) : List (D × D) := match p.1 with
      | .int i => putD ps (.int i) p.2
      | .str x => putD ps (.str x) p.2
      | _ => ps
theorem disp_merge {K : Fg} {F : Hp} : ∀ {cs : List Const} {xs : List V} {ds : List D}, RpL K F xs ds → cs.length = xs.length → cs.all keyCB = true → ∀ {kvs : List (Key × V)} {ps : List (D × D)}, RpK K F kvs ps →
    RpK K F (mergeK kvs ((cs.zip xs).map fun p => (keyC p.1, p.2))) ((cs.zip ds).foldl dstep ps)
  | [], xs, ds, h, hl, hc, kvs, ps, r => by
    cases h with
    | nil => exact r
    | cons h1 h2 => simp at hl
  | c :: cs, xs, ds, h, hl, hc, kvs, ps, r => by
    rw [List.all_cons, Bool.and_eq_true] at hc
    cases h with
    | nil => simp at hl
    | @cons x xs d ds h1 h2 =>
      have hl' : cs.length = xs.length := by simpa using hl
      show RpK K F (mergeK (putK kvs (keyC c) x) _) ((cs.zip ds).foldl dstep (dstep ps (c, d)))
      have e : dstep ps (c, d) = putD ps (keyD (keyC c)) d := by
        cases c <;> first | rfl | (simp [keyCB] at hc)
      rw [e]
      exact disp_merge h2 hl' hc.2 (r.put (keyC c) h1)
theorem rd_dsp {ks : List (Option Expr)} {vs : List Expr} {cs : List Const} {l : IA} {trs : List (TE × TE)} (h : PV X B call ks vs cs l trs) :
    PE X (.Dict ks vs pos) (RdE X.K B fun r => (evA call l r).bind fun vs r1 => match dispD cs vs with
      | some ps => .ok (.f (.dict ps)) r1
      | none => .stuck) := by
  obtain ⟨l1, l2, l3⟩ := h.len
  by_cases h0 : ks = [] ∨ ¬ ks.length ≤ 15
  · refine ⟨fun pins s σ H Q I ⟨F, r, st, t, r', e, k⟩ => ?_⟩
    obtain ⟨ds, r1, e1, e⟩ := bind_inv e
    split at e
    · rename_i ps hd
      unfold dispD at hd
      split at hd
      · rename_i w
        rcases h0 with h0 | h0
        · subst h0
          exact absurd (List.eq_nil_of_length_eq_zero l2.symm) w.2.2.1
        · exact absurd (l2 ▸ w.2.1) h0
      · cases hd
    · cases e
  · rw [not_or, Classical.not_not] at h0
    refine PE.imp (pe_disp h.pps l3 l1 h0.1 h0.2) fun σ H Q ⟨F, r, st, t, r', e, k⟩ p hp => ?_
    obtain ⟨ds, r1, e1, e⟩ := bind_inv e
    have lp := laid (o := .dK []) st hp
    have fp : F p = none := by
      cases q : F p with
      | none => rfl
      | some u =>
        rw [st.sub _ _ q] at hp
        cases hp
    have no : ¬ Own σ r p := fun q => by
      obtain ⟨o, eo, _⟩ := st.ownH q
      rw [hp] at eo
      cases eo
    refine h.pairs ⟨F, r, lp.st, ds, r1, e1, fun xs F1 H1 p1 rl hlen => ?_⟩
    split at e
    · rename_i ps hd
      cases e
      have hp1 : H1 p = some (.dK []) := p1.frame.at_ p _ upd_same no pl_dK
      have fp1 : F1 p = none := by
        cases q : F1 p with
        | none => rfl
        | some u =>
          rcases p1.fr p (by rw [q]; simp) with w | w | w
          · exact absurd fp w
          · exact (w.no upd_same fun _ z => nomatch z).elim
          · exact absurd w no
      have no1 : ¬ Own σ r' p := fun q => no (p1.own p q)
      unfold dispD at hd
      split at hd
      · rename_i w
        have ew : ps = (cs.zip ds).foldl dstep [] := (Option.some.inj hd).symm
        subst ew
        have hc : cs.all keyCB = true := w.2.2.2
        have hkl : (cs.zip xs).length ≤ 15 := by
          rw [List.length_zip]
          have := w.2.1
          omega
        have hl' : cs.length = xs.length := hlen.symm
        refine ⟨hp1, (cs.zip xs).map fun p => (keyC p.1, p.2), ?_, by rw [List.length_map]; exact hkl, ?_⟩
        · rw [List.map_map]; rfl
        · have pp := (lp.trans p1)
          have mm : Post X.K B σ r F H r' F1 (upd H1 p (.dK (mergeK [] ((cs.zip xs).map fun p => (keyC p.1, p.2))))) := by
            have pl : Pl (H1 p) := pl_at hp1 pl_dK
            refine ⟨st_upd p1.st fp1 no1 pl, pp.mono, pp.frame.trans (Kp.put (O := fun a => a = p) rfl pl) (fun c z => .inr (by rw [z]; exact nT_none hp)), fun a ha => ?_, pp.fr, pp.own⟩
            · exact dom_put (by first | exact pl_lst | exact pl_dK | exact pl_dT | exact pl_frz | exact pl_tup | exact pl_ob (by assumption) | exact pl_none) pp.dom a ha
          exact k _ F1 _ mm ⟨p, _, rfl, upd_same, fp1, .inl ⟨_, rfl, disp_merge rl hl' hc .nil⟩, nT_none hp⟩
      · cases hd
    · cases e
end
end Ev

end
section
set_option linter.all false
set_option maxHeartbeats 4000000
/-! xs.index(k) -/
namespace Ev
open PySem PySem.Spec PyProof.Rows L2
theorem lstR_inv {r r' : Env} {t : TV} (h : lstR r t = .ok () r') : ∃ xs, deref r t = some (.list xs) ∧ r = r' := by
  unfold lstR at h
  split at h
  · rename_i xs hu
    cases h
    exact ⟨xs, hu, rfl⟩
  · cases h
theorem firstIx_ok {v : D} : ∀ {xs : List D} {j : Nat}, firstIx xs v = some j → ∃ z, xs[j]? = some z ∧ PyData.eqv z v = true ∧ ∀ (m : Nat) (z' : D), m < j → xs[m]? = some z' → PyData.eqv z' v = false
  | [], j, h => by cases h
  | x :: r, j, h => by
    unfold firstIx at h
    split at h
    · rename_i w
      cases h
      exact ⟨x, rfl, w, fun m z' hm _ => absurd hm (Nat.not_lt_zero _)⟩
    · rename_i w
      rw [Option.map_eq_some_iff] at h
      obtain ⟨i, h1, rfl⟩ := h
      obtain ⟨z, h2, h3, h4⟩ := firstIx_ok h1
      refine ⟨z, by simpa using h2, h3, fun m z' hm q => ?_⟩
      cases m with
      | zero =>
        simp only [List.getElem?_cons_zero, Option.some.injEq] at q
        subst q
        simpa using w
      | succ m => exact h4 m z' (by omega) (by simpa using q)
section
variable {X : Cx} {B : Bs} {o k : Expr} {apos cpos : Pos} {f g : Env → Res TV}
theorem rd_ixo (hu : X.A.units + 65 < cLine) (hb : baseB o = true) (hp : plainE k = true) (hl : (apos.endLine == cpos.line) = true) (ho : PE X o (RdE X.K B f)) (hk : PE X k (RdE X.K B g)) :
    PE X (.Call (.Attribute o "index" apos) [k] [] cpos) (RdE X.K B fun r => (f r).bind fun x r1 => (lstR r1 x).bind fun _ r1 => (g r1).bind fun y r2 =>
      match deref r2 x, deref r2 y with
      | some u, some v => .of ((ixD u v).map fun j : Nat => .d (.int j)) r2
      | _, _ => .stuck) := by
  refine PE.imp (pe_bm PySem.F.plainAttrs_list PySem.F.slot_list_index PySem.F.type_list_index (mt_indexD hu) ho (pa_cons hk pa_nil (star_cons hp)) (base_ok hb) (by rw [back_one hp]; rfl) hl (star_cons hp) rfl) fun σ H Q ⟨F, r, s, t, r', e, c⟩ => ?_
  obtain ⟨x, r1, e1, ea⟩ := bind_inv e
  obtain ⟨_, r1', e0, eb⟩ := bind_inv ea
  obtain ⟨xs0, z0, rfl⟩ := lstR_inv e0
  clear e ea
  obtain ⟨y, r2, e2, e⟩ := bind_inv eb
  refine ⟨F, r, s, x, r1, e1, fun xv F1 H1 p1 t1 => ?_⟩
  obtain ⟨a, ys0, rfl, h0, _⟩ := (deref_rq p1.st t1 z0).lst p1.st.sub
  refine ⟨.inl ⟨rfl, ys0, SqL.of h0⟩, F1, r1, p1.st, y, r2, e2, fun yv F2 H2 p2 t2 => ?_⟩
  have t1' := t1.keep p2 (p1.ne s)
  split at e
  · rename_i u v z1 z2
    obtain ⟨e3, rfl⟩ := of_inv e
    rw [Option.map_eq_some_iff] at e3
    obtain ⟨j, e3, rfl⟩ := e3
    unfold ixD at e3
    split at e3
    · rename_i u' v' xs
      split at e3
      · rename_i w
        rw [Bool.and_eq_true] at w
        obtain ⟨z, g1, g2, g3⟩ := firstIx_ok e3
        have hx : Rp X.K H2 (.ref a) (.list xs) := (deref_rq p2.st t1' z1).rp p2.st.sub
        have hy : Rp X.K H2 yv v := (deref_rq p2.st t2 z2).rp p2.st.sub
        exact ⟨a, yv, v, xs, j, z, rfl, rfl, shaped_dp hx w.1, shaped_dp hy w.2, w.1, w.2, g1, g2, g3, c _ F2 H2 (p1.trans p2) (.int _)⟩
      · cases e3
    · cases e3
  · cases e
end
end Ev

end
section
set_option linter.all false
set_option maxHeartbeats 4000000
/-! One dict merged into another, as a display with two stars does it. -/
namespace Ev
open PySem PySem.Spec PyProof.Rows L2
section
variable {prog : Program} {w : World} {K : Type} [DecidableEq K] {knd : KeyKind prog w K} {A : Around} {E : Value → Shared → Prop} {s : Shared}
theorem wpAny_dictPut_pairs {d : Addr} {kvs : List (K × Value)} {k : K} {key v : Value} {Q : Unit → Shared → Prop} (hkey : knd.is k key = true) (hm : s.heap.DictOf knd d kvs)
    (hQ : ∀ h', h'.DictOf knd d (stored kvs k v) → Heap.SameBut d s.heap h' → Q () { s with heap := h' })
    (hsz : kvs.length ≤ sizeLine) :
    wpAny (model prog w) A (dictPut d (knd.hash k) key v) Q E s := by
  obtain ⟨o, es, ep, ho, hc, hd, hk, hp, hn⟩ := hm
  have hes : es.size ≤ sizeLine := by
    have e1 := hp.length
    have e2 : es.toList.length = es.size := by simp
    omega
  unfold dictPut
  refine wpAny_bind (wpAny_dictFind_of hkey ho hd hk ?_)
  have hidx : (es.findIdx? fun e => knd.is k e.key) = kvs.findIdx? fun kv => decide (kv.1 = k) := by
    rw [← hp.findIdx k]; obtain ⟨l⟩ := es; simp
  cases hi : es.findIdx? fun e => knd.is k e.key with
  | some i =>
    refine wpAny_updateDict ho hd (hQ _ ⟨_, _, ep, Heap.get?_update_self _ ho (Obj.isFreed_of_dict (Obj.data_mapDict hd _)),
      hc.mapDict _, Obj.data_mapDict hd _, hk.modify _ _, ?_, ?_⟩ (Heap.SameBut.update ..))
    · rw [stored, if_pos (any_of_findIdx_some (hidx ▸ hi))]
      have hl : (es.toList.findIdx? fun e => knd.is k e.key) = some i := by rw [← hi]; obtain ⟨l⟩ := es; simp
      have := hp.modify hn hl v
      obtain ⟨l⟩ := es
      simpa using this
    · rw [stored, if_pos (any_of_findIdx_some (hidx ▸ hi)), keys_map_store]; exact hn
  | none =>
    have hnot : k ∉ kvs.map (·.1) := not_mem_of_findIdx_none (hidx ▸ hi)
    have hany : ¬ (kvs.any fun kv => decide (kv.1 = k)) = true := by
      rw [List.any_eq_true]; rintro ⟨kv, hkv, he⟩
      exact hnot (List.mem_map.mpr ⟨kv, hkv, of_decide_eq_true he⟩)
    refine wpAny_updateDictKeys (hz := hes) ho hd (hQ _ ⟨_, _, ep + 1, Heap.get?_update_self _ ho (Obj.isFreed_of_dict (Obj.data_mapDictKeys hd _)),
      hc.mapDictKeys _, Obj.data_mapDictKeys hd _, hk.push hkey _, ?_, ?_⟩ (Heap.SameBut.update ..))
    · rw [stored, if_neg hany]
      have := hp.append hkey (knd.hash k) v
      obtain ⟨l⟩ := es
      simpa using this
    · rw [stored, if_neg hany, List.map_append, List.nodup_append]
      refine ⟨hn, by simp, ?_⟩
      intro a ha b hb
      simp only [List.map_cons, List.map_nil, List.mem_singleton] at hb
      subst hb
      exact fun e => hnot (e ▸ ha)
/-- the turns of a merge -/
def mTurns (d a : Addr) : Sem Unit := do
  let sz ← dictEntries a
  let epoch ← dictEpoch a
  let _ ← forIn (List.range sz.size) PUnit.unit fun i (_ : PUnit) => (do
    let l ← dictEntries a
    match l[i]? with
    | some e => do
      holding [e.key, e.val] (dictPut d e.hash e.key e.val)
      let ep ← dictEpoch a
      if (ep != epoch) = true then do
          (unsupported "dict.changed-during-merge" : Sem PUnit)
          pure (ForInStep.yield PUnit.unit)
        else pure (ForInStep.yield PUnit.unit)
    | _ => do
      (unsupported "dict.changed-during-merge" : Sem PUnit)
      pure (ForInStep.yield PUnit.unit) : Sem (ForInStep PUnit))
  pure ()
theorem wpAny_mTurns {d o : Addr} {kvs more : List (K × Value)} {Q : Unit → Shared → Prop} (hdo : d ≠ o)
    (hd : s.heap.DictOf knd d kvs) (ho : s.heap.DictOf knd o more)
    (hQ : ∀ h', h'.DictOf knd d (merged kvs more) → h'.DictOf knd o more → Heap.SameBut d s.heap h' → Q () { s with heap := h' })
    (hsz : kvs.length + more.length ≤ sizeLine) :
    wpAny (model prog w) A (mTurns d o) Q E s := by
  obtain ⟨oo, eso, epo, hoo, hco, hdo', hko, hpo, hno⟩ := id ho
  have hlen : more.length = eso.size := by rw [← hpo.length]; simp
  unfold mTurns
  refine wpAny_bind (wpAny_dictEntries hoo hdo' ?_)
  refine wpAny_bind (wpAny_dictEpoch hoo hdo' ?_)
  refine wpAny_bind ?_
  rw [List.range_eq_range']
  refine wpAny_forIn_list _
      (fun rest _ s' => ∃ h' i, s' = { s with heap := h' } ∧ rest = List.range' i (eso.size - i) ∧ i ≤ eso.size ∧ h'.DictOf knd d (merged kvs (more.take i)) ∧ h'.get? o = some oo ∧ Heap.SameBut d s.heap h')
      _ ?_ ?_ _ _ ⟨s.heap, 0, rfl, by simp, Nat.zero_le _, by simpa [merged] using hd, hoo, Heap.SameBut.refl _ _⟩
  · rintro x rest b s' ⟨h', i, rfl, hr, hi, hd', hoo', hs'⟩
    have hlt : i < eso.size := by
      rcases Nat.lt_or_ge i eso.size with h | h
      · exact h
      · rw [Nat.sub_eq_zero_of_le h] at hr; simp at hr
    obtain ⟨rfl, hrest⟩ : x = i ∧ rest = List.range' (i + 1) (eso.size - (i + 1)) := by
      have e : eso.size - i = (eso.size - (i + 1)) + 1 := by omega
      rw [e, List.range'_succ] at hr
      injection hr with h1 h2
      exact ⟨h1, h2⟩
    refine wpAny_bind (wpAny_dictEntries hoo' hdo' ?_)
    rw [Array.getElem?_eq_getElem hlt]
    obtain ⟨kv, hkv⟩ : ∃ kv, more[x]? = some kv := ⟨more[x]'(by rw [hlen]; exact hlt), List.getElem?_eq_getElem _⟩
    obtain ⟨k, v⟩ := kv
    obtain ⟨hkey, hval⟩ := hpo.get? (e := eso[x]) (by simp [hlt]) hkv
    obtain ⟨k', hkey', hhash⟩ := hko eso[x] (Array.getElem_mem hlt)
    obtain rfl : k' = k := knd.inj _ _ _ hkey' hkey
    show wpAny _ _ (holding [eso[x].key, eso[x].val] (dictPut d eso[x].hash eso[x].key eso[x].val) >>= _) _ _ _
    rw [hhash, hval]
    have hmx : (merged kvs (more.take x)).length ≤ sizeLine := by
      have e1 := merged_length_le kvs (more.take x)
      have e2 : (more.take x).length ≤ more.length := by rw [List.length_take]; omega
      omega
    refine wpAny_bind (wpAny_holding (wpAny_dictPut_pairs (hsz := hmx) hkey hd' fun h'' hd'' hs'' => ?_))
    have hoo'' : h''.get? o = some oo := (hs''.2 o (Ne.symm hdo)).trans hoo'
    refine wpAny_bind (wpAny_dictEpoch hoo'' hdo' ?_)
    rw [if_neg (by simp)]
    exact wpAny_pure ⟨h'', x + 1, rfl, hrest, hlt, by rw [merged_take_succ kvs more x (k', v) hkv]; exact hd'', hoo'', hs'.trans hs''⟩
  · rintro b s' ⟨h', i, rfl, hr, hi, hd', hoo', hs'⟩
    have hin : i = eso.size := by
      rcases Nat.lt_or_ge i eso.size with h | h
      · have e : eso.size - i = (eso.size - (i + 1)) + 1 := by omega
        rw [e, List.range'_succ] at hr
        exact nomatch hr
      · omega
    have ht : more.take i = more := by rw [hin, ← hlen]; exact List.take_length
    rw [ht] at hd'
    exact wpAny_pure (hQ h' hd' ⟨oo, eso, epo, hoo', hco, hdo', hko, hpo, hno⟩ hs')
theorem wpAny_mergeM {d o : Addr} {kvs more : List (K × Value)} {Q : Unit → Shared → Prop} (hdo : d ≠ o) (hoS : (o == sysModules) = false)
    (hd : s.heap.DictOf knd d kvs) (ho : s.heap.DictOf knd o more)
    (hQ : ∀ h', h'.DictOf knd d (merged kvs more) → h'.DictOf knd o more → Heap.SameBut d s.heap h' → Q () { s with heap := h' })
    (hsz : kvs.length + more.length ≤ sizeLine) :
    wpAny (model prog w) A (mergeMapping d (.ref o) false) Q E s := by
  obtain ⟨od, esd, epd, hod, hcd, hdd, hkd, hpd, hnd⟩ := id hd
  obtain ⟨oo, eso, epo, hoo, hco, hdo', hko, hpo, hno⟩ := id ho
  have hT : s.TypeIs (.ref o) "dict" := ⟨oo, hoo, hco.1⟩
  have hnr : ∀ e ∈ eso, ∀ b, e.key ≠ .ref b := fun e he b z => by
    obtain ⟨k, hk, _⟩ := hko e he
    have := knd.byValue k e.key hk
    rw [z] at this
    simp [carriedByValue] at this
  have hturns := wpAny_mTurns (A := A) (E := E) (s := s) hdo hd ho hQ hsz
  unfold mergeMapping
  refine wpAny_bind (wpAny_isInstance hT isSubtype_dict_dict ?_)
  rw [if_pos rfl]
  refine wpAny_bind (wpAny_specialOf (name := Str.ofString "__iter__") hT F.slot_dict_iter.lookup ?_)
  rw [show (some (Value.builtin "dict.__iter__") == some (Value.builtin "dict.__iter__")) = true from rfl]
  refine wpAny_bind (wpAny_pure ?_)
  show wpAny _ _ (if (o == sysModules) = true then _ else _) _ _ _
  rw [if_neg (by rw [hoS]; exact Bool.false_ne_true)]
  refine wpAny_bind (wpAny_dictEntries hod hdd ?_)
  show wpAny _ _ (if esd.isEmpty = true then _ else _) _ _ _
  by_cases hE : esd.isEmpty = true
  · rw [if_pos hE]
    refine wpAny_bind (wpAny_dictEntries hoo hdo' ?_)
    refine wpAny_bind ?_
    rw [← Array.forIn_toList]
    refine wpAny_forIn_list _ (fun rest _ s' => s' = s ∧ ∀ e ∈ rest, ∀ b, e.key ≠ .ref b) _ ?_ ?_ _ _ ⟨rfl, fun e he => hnr e (Array.mem_toList_iff.mp he)⟩
    · rintro x rest b s' ⟨rfl, hr⟩
      have hx := hr x List.mem_cons_self
      split
      · rename_i c hc
        exact absurd hc (hx _)
      · exact wpAny_pure ⟨rfl, fun e he => hr e (List.mem_cons_of_mem _ he)⟩
    · rintro b s' ⟨rfl, _⟩
      simp only [Bool.false_eq_true, if_false]
      exact hturns
  · rw [if_neg hE]
    simp only [Bool.false_eq_true, if_false]
    exact hturns
end
end Ev

end
section
set_option linter.all false
set_option maxHeartbeats 4000000
/-! The same for keys that are tuples. -/
namespace Ev
open PySem PySem.Spec PyProof.Rows L2
section
variable {prog : Program} {w : World} {K : Type} [DecidableEq K] {knd : HeapKind prog w K} {A : Around} {E : Value → Shared → Prop} {s : Shared}
theorem wpAny_dictPut_heap {d a : Addr} {xs : List (K × Addr × Value)} {k : K} {v : Value} {Q : Unit → Shared → Prop} (hu : knd.room A) (hkey : knd.is s.heap k a) (hm : s.heap.DictOfH knd d xs)
    (hQ : ∀ h', h'.DictOfH knd d (storedH xs k a v) → Heap.SameBut d s.heap h' → Q () { s with heap := h' })
    (hsz : xs.length ≤ sizeLine) :
    wpAny (model prog w) A (dictPut d (knd.hash k) (.ref a) v) Q E s := by
  obtain ⟨o, es, ep, ho, hc, hd, he, his, hn⟩ := hm
  unfold dictPut
  refine wpAny_bind (wpAny_dictFind_heap hu hkey ho hd he his hn ?_ ?_)
  · intro hno
    have hnot : k ∉ xs.map (·.1) := not_mem_keys_of_get hno
    refine wpAny_updateDictKeys (hz := by have e := size_of_entries he; omega) ho hd (hQ _ ⟨_, _, ep + 1, Heap.get?_update_self _ ho (Obj.isFreed_of_dict (Obj.data_mapDictKeys hd _)),
      hc.mapDictKeys _, Obj.data_mapDictKeys hd _, ?_, ?_, ?_⟩ (Heap.SameBut.update ..))
    · rw [storedH_new (atKey_none_of_get hno)]
      simp [he, entryOfKey]
    · rw [storedH_new (atKey_none_of_get hno)]
      intro x hx
      rcases List.mem_append.mp hx with hx | hx
      · exact knd.keeps (his x hx) ho hd (Heap.SameBut.update ..)
      · simp only [List.mem_singleton] at hx
        subst hx
        exact knd.keeps hkey ho hd (Heap.SameBut.update ..)
    · rw [storedH_new (atKey_none_of_get hno)]
      rw [List.map_append, List.nodup_append]
      refine ⟨hn, by simp, ?_⟩
      intro x hx y hy
      simp only [List.map_cons, List.map_nil, List.mem_singleton] at hy
      subst hy
      exact fun e => hnot (e ▸ hx)
  · intro j p hj
    refine wpAny_updateDict ho hd (hQ _ ⟨_, _, ep, Heap.get?_update_self _ ho (Obj.isFreed_of_dict (Obj.data_mapDict hd _)),
      hc.mapDict _, Obj.data_mapDict hd _, ?_, ?_, ?_⟩ (Heap.SameBut.update ..))
    · rw [storedH_old (atKey_of_get hn hj)]
      have := modify_map_putAt (entryOfKey knd) (fun e : DictEntry => { e with val := v }) k v (fun _ _ => rfl) hn hj
      rw [← he] at this
      obtain ⟨l⟩ := es
      simpa using this
    · rw [storedH_old (atKey_of_get hn hj)]
      intro x hx
      obtain ⟨y, hy, rfl⟩ := List.mem_map.mp hx
      unfold putAt
      split <;> exact knd.keeps (his y hy) ho hd (Heap.SameBut.update ..)
    · rw [storedH_old (atKey_of_get hn hj)]
      rw [keys_map_putAt]; exact hn
theorem wpAny_mTurns_heap {d o : Addr} {kvs more : List (K × Addr × Value)} {Q : Unit → Shared → Prop} (hu : knd.room A) (hdo : d ≠ o)
    (hd : s.heap.DictOfH knd d kvs) (ho : s.heap.DictOfH knd o more)
    (hQ : ∀ h', h'.DictOfH knd d (storedAllH kvs more) → h'.DictOfH knd o more → Heap.SameBut d s.heap h' → Q () { s with heap := h' })
    (hsz : kvs.length + more.length ≤ sizeLine) :
    wpAny (model prog w) A (mTurns d o) Q E s := by
  obtain ⟨oo, eso, epo, hoo, hco, hdo', heo, hiso, hno⟩ := id ho
  have hlen : eso.size = more.length := size_of_entries heo
  unfold mTurns
  refine wpAny_bind (wpAny_dictEntries hoo hdo' ?_)
  refine wpAny_bind (wpAny_dictEpoch hoo hdo' ?_)
  refine wpAny_bind ?_
  rw [List.range_eq_range']
  refine wpAny_forIn_list _
      (fun rest _ s' => ∃ h' i, s' = { s with heap := h' } ∧ rest = List.range' i (eso.size - i) ∧ i ≤ eso.size ∧ h'.DictOfH knd d (storedAllH kvs (more.take i)) ∧ h'.DictOfH knd o more ∧ h'.get? o = some oo ∧ Heap.SameBut d s.heap h')
      _ ?_ ?_ _ _ ⟨s.heap, 0, rfl, by simp, Nat.zero_le _, by simpa [storedAllH] using hd, ho, hoo, Heap.SameBut.refl _ _⟩
  · rintro x rest b s' ⟨h', i, rfl, hr, hi, hd', ho', hoo', hs'⟩
    have hlt : i < eso.size := by
      rcases Nat.lt_or_ge i eso.size with h | h
      · exact h
      · rw [Nat.sub_eq_zero_of_le h] at hr; simp at hr
    obtain ⟨rfl, hrest⟩ : x = i ∧ rest = List.range' (i + 1) (eso.size - (i + 1)) := by
      have e : eso.size - i = (eso.size - (i + 1)) + 1 := by omega
      rw [e, List.range'_succ] at hr
      injection hr with h1 h2
      exact ⟨h1, h2⟩
    refine wpAny_bind (wpAny_dictEntries hoo' hdo' ?_)
    obtain ⟨⟨k, a, v⟩, hkv⟩ : ∃ kv, more[x]? = some kv := ⟨more[x]'(by rw [← hlen]; exact hlt), List.getElem?_eq_getElem _⟩
    rw [entry_at heo x, hkv]
    show wpAny _ _ (holding [.ref a, v] (dictPut d (knd.hash k) (.ref a) v) >>= _) _ _ _
    have hmx : (storedAllH kvs (more.take x)).length ≤ sizeLine := by
      have e1 := storedAllH_length (more.take x) kvs
      have e2 : (more.take x).length ≤ more.length := by rw [List.length_take]; omega
      omega
    have hkey : knd.is h' k a := by
      obtain ⟨_, _, _, _, _, _, _, his', _⟩ := ho'
      exact his' (k, a, v) (List.mem_of_getElem? hkv)
    refine wpAny_bind (wpAny_holding (wpAny_dictPut_heap (s := { s with heap := h' }) (hsz := hmx) hu hkey hd' fun h'' hd'' hs'' => ?_))
    have hoo'' : h''.get? o = some oo := (hs''.2 o (Ne.symm hdo)).trans hoo'
    refine wpAny_bind (wpAny_dictEpoch hoo'' hdo' ?_)
    rw [if_neg (by simp)]
    exact wpAny_pure ⟨h'', x + 1, rfl, hrest, hlt, by rw [storedAllH_take_succ kvs more x (k, a, v) hkv]; exact hd'', ho'.notHere hd' hdo hs'', hoo'', hs'.trans hs''⟩
  · rintro b s' ⟨h', i, rfl, hr, hi, hd', ho', hoo', hs'⟩
    have hin : i = eso.size := by
      rcases Nat.lt_or_ge i eso.size with h | h
      · have e : eso.size - i = (eso.size - (i + 1)) + 1 := by omega
        rw [e, List.range'_succ] at hr; exact nomatch hr
      · exact Nat.le_antisymm hi h
    refine wpAny_pure (hQ h' ?_ ho' hs')
    rw [hin, hlen, List.take_length] at hd'; exact hd'
theorem wpAny_mergeM_heap {d o : Addr} {kvs more : List (K × Addr × Value)} {Q : Unit → Shared → Prop} (hu : knd.room A) (hdo : d ≠ o) (hoS : (o == sysModules) = false)
    (hd : s.heap.DictOfH knd d kvs) (ho : s.heap.DictOfH knd o more) (hap : kvs ≠ [] ∨ ((∀ x ∈ more, s.TypeIs (.ref x.2.1) "tuple") ∧ (more.map fun x => knd.hash x.1).Nodup))
    (hQ : ∀ h', h'.DictOfH knd d (storedAllH kvs more) → h'.DictOfH knd o more → Heap.SameBut d s.heap h' → Q () { s with heap := h' })
    (hsz : kvs.length + more.length ≤ sizeLine) :
    wpAny (model prog w) A (mergeMapping d (.ref o) false) Q E s := by
  obtain ⟨od, esd, epd, hod, hcd, hdd, hed, hisd, hnd⟩ := id hd
  obtain ⟨oo, eso, epo, hoo, hco, hdo', heo, hiso, hno⟩ := id ho
  have hT : s.TypeIs (.ref o) "dict" := ho.typeIs
  have hturns := wpAny_mTurns_heap (A := A) (E := E) (s := s) hu hdo hd ho hQ hsz
  unfold mergeMapping
  refine wpAny_bind (wpAny_isInstance hT isSubtype_dict_dict ?_)
  rw [if_pos rfl]
  refine wpAny_bind (wpAny_specialOf (name := Str.ofString "__iter__") hT F.slot_dict_iter.lookup ?_)
  rw [show (some (Value.builtin "dict.__iter__") == some (Value.builtin "dict.__iter__")) = true from rfl]
  refine wpAny_bind (wpAny_pure ?_)
  show wpAny _ _ (if (o == sysModules) = true then _ else _) _ _ _
  rw [if_neg (by rw [hoS]; exact Bool.false_ne_true)]
  refine wpAny_bind (wpAny_dictEntries hod hdd ?_)
  show wpAny _ _ (if esd.isEmpty = true then _ else _) _ _ _
  by_cases hE : esd.isEmpty = true
  · rw [if_pos hE]
    have hkvs : kvs = [] := by
      have h0 : esd = #[] := Array.isEmpty_iff.mp hE
      have := size_of_entries hed
      rw [h0] at this
      exact List.length_eq_zero_iff.mp (by simpa using this.symm)
    have hap' := hap.resolve_left fun h => h hkvs
    have hka := keysApart (s := s) heo hap'.1 hap'.2
    refine wpAny_bind (wpAny_dictEntries hoo hdo' ?_)
    refine wpAny_bind ?_
    rw [← Array.forIn_toList]
    refine wpAny_forIn_list _ (fun rest _ s' => s' = s ∧ ∀ e ∈ rest, ∃ b, e.key = .ref b ∧ s.TypeIs (.ref b) "tuple" ∧ (eso.filter (fun x => x.hash == e.hash)).size ≤ 1) _ ?_ ?_ _ _ ⟨rfl, fun e he => ?_⟩
    · rintro x rest b s' ⟨rfl, hr⟩
      obtain ⟨c, hc, ht, hz⟩ := hr x List.mem_cons_self
      rw [hc]
      refine wpAny_bind (wpAny_specialOf (name := Str.ofString "__eq__") ht F.slot_tuple_eq.lookup ?_)
      rw [if_pos (by rfl), if_neg (by omega)]
      exact wpAny_pure ⟨rfl, fun e he => hr e (List.mem_cons_of_mem _ he)⟩
    · rintro b s' ⟨rfl, _⟩
      simp only [Bool.false_eq_true, if_false]
      exact hturns
    · rcases hka e he with h | ⟨b, h1, h2, h3⟩
      · exfalso
        rw [heo] at he
        obtain ⟨x, hx, rfl⟩ := List.mem_map.mp he
        simp [entryOfKey, carriedByValue] at h
      · exact ⟨b, h1, h2, h3⟩
  · rw [if_neg hE]
    simp only [Bool.false_eq_true, if_false]
    exact hturns
end
end Ev

end
section
set_option linter.all false
set_option maxHeartbeats 4000000
/-! The display of a dict and one pair more. -/
namespace Ev
open PySem PySem.Spec PyProof.Rows L2
section
variable {prog : Program} {w : World} {A : Around} {E : Value → Shared → Prop} {s : Shared}
theorem wpAny_star {md mk mv : Sem Value} {Q : Value → Shared → Prop}
    (h : wpAny (model prog w) A md (fun m s1 => ∀ E', wpAny (model prog w) A (mergeMapping s.heap.objs.size m false) (fun _ s2 =>
        wpAny (model prog w) A (subDict [(mk, mv)]) (fun sub s3 => ∀ E', wpAny (model prog w) A (mergeMapping s.heap.objs.size (.ref sub) false) (fun _ s4 => Q (.ref s.heap.objs.size) s4) E' s3) E s2) E' s1) E
      { s with heap := s.heap.push { cls := .type "dict", data := .dict #[] } }) :
    wpAny (model prog w) A (dictDisplay [(none, md), (some mk, mv)]) Q E s := by
  unfold dictDisplay
  dsimp only
  simp only [List.forIn_cons, List.forIn_nil]
  refine wpAny_bind ?_
  refine wpAny_bind ?_
  show wpAny _ _ (bind (if ([] : List (Sem Value × Sem Value)).isEmpty = true then pure none else _) _) _ _ _
  rw [if_pos (c := ([] : List (Sem Value × Sem Value)).isEmpty = true) rfl]
  refine wpAny_bind (wpAny_pure ?_)
  show wpAny _ _ (bind (alloc _) _) _ _ _
  refine wpAny_bind (wpAny_alloc ?_)
  refine wpAny_bind (wpAny_holding (wpAny_mono h (fun m s1 hm => ?_) fun _ _ e => e))
  refine wpAny_bind (wpAny_onRaise (wpAny_tryCatch (wpAny_onRaise (wpAny_holding (wpAny_mono (hm _) (fun _ s2 h2 => ?_) fun _ _ e => e)))))
  refine wpAny_pure ?_
  dsimp only
  refine wpAny_bind ?_
  rw [if_neg (show ¬ (([] ++ [(mk, mv)] : List (Sem Value × Sem Value)).length == 17) = true by simp)]
  refine wpAny_pure ?_
  dsimp only
  refine wpAny_pure ?_
  dsimp only
  refine wpAny_bind ?_
  rw [if_neg (show ¬ ([] ++ [(mk, mv)] : List (Sem Value × Sem Value)).isEmpty = true by simp)]
  refine wpAny_bind (wpAny_holding (wpAny_mono h2 (fun sub s3 h3 => ?_) fun _ _ e => e))
  refine wpAny_bind (wpAny_onRaise (wpAny_holding (wpAny_mono (h3 _) (fun _ s4 h4 => ?_) fun _ _ e => e)))
  refine wpAny_pure ?_
  exact wpAny_pure h4
end
end Ev

end
section
set_option linter.all false
set_option maxHeartbeats 4000000
namespace Ev
open PySem PySem.Spec PyProof.Rows L2
/-- {**d, k: v}, with keys ints and texts -/
def tStarK (td tk tv : TE) : TE := fun σ H Q => ∀ p, H p = none → td σ (upd H p (.dK [])) fun x H1 => H1 p = some (.dK []) ∧ ∃ a kvs, x = .ref a ∧ a ≠ p ∧ Rd H1 a (.dK kvs) ∧ kvs.length < sizeLine ∧
  ∀ q, H1 q = none → q ≠ p → tk σ (upd (upd H1 p (.dK kvs)) q (.dK [])) fun y H2 => tv σ H2 fun z H3 => H3 p = some (.dK kvs) ∧ H3 q = some (.dK []) ∧ ∃ k, y = kV k ∧ Q (.ref p) (upd (upd H3 q (.dK [(k, z)])) p (.dK (putK kvs k z)))
theorem pe_starK {X : Cx} {pos : Pos} {ed ek ev : Expr} {td tk tv : TE} (hd : PE X ed td) (hk : PE X ek tk) (hv : PE X ev tv) : PE X (.Dict [none, some ek] [ed, ev] pos) (tStarK td tk tv) := by
  refine ⟨fun pins s σ H Q I q => ?_⟩
  have hn := I.hok.fresh (Nat.le_refl s.heap.objs.size)
  have I1 := I.laid (a := s.heap.objs.size) (o := .dK []) (h' := s.heap.push { cls := .type "dict", data := .dict #[] }) (t' := s.toks) (fun _ _ q => Heap.get?_push_of_some _ q) (Nat.le_refl _) (dk_empty s.heap I.big)
  rw [arm_eval_Dict]
  refine wpAny_bind (wpAny_standAt ?_)
  refine wpAny_star ?_
  refine wpAny_bind (thn (hd.run pins _ σ _ _ I1 (q _ hn)) fun u s1 ⟨x, H1, I2, rx, q1⟩ => ?_)
  obtain ⟨ep, a, kvs, rfl, hap, ra, hl, q2⟩ := q1
  cases (show u = Value.ref a from rx)
  refine wpAny_bind (wpAny_standAt (wpAny_pure fun E' => ?_))
  obtain ⟨z, hdm, vs, rel, dd⟩ := dk_rd I2.hok ra
  obtain ⟨z0, hd0, vs0, r0, dd0⟩ := dk_of I2.hok ep
  cases r0
  have hvl : vs.length = kvs.length := rel.length.symm
  refine wpAny_mergeM (knd := mixKind X.prog X.w) (Ne.symm hap) hdm dd0 dd (fun h' d1 d2 hs => ?_) (by rw [List.length_nil]; omega)
  have hnd : (vs.map (·.1)).Nodup := let ⟨_, _, _, _, _, _, _, _, hn⟩ := dd; hn
  rw [merged_nil_of_nodup vs hnd] at d1
  have he : ∃ q, h'.get? s.heap.objs.size = some q := let ⟨q, _, _, hq, _⟩ := d1; ⟨q, hq⟩
  have I3 := d_write (t' := s1.toks) I2 (by rw [ep]; exact True.intro) hs he (dk_new z hd0 rel d1)
  obtain ⟨p, hp⟩ : ∃ p, p = s.heap.objs.size := ⟨_, rfl⟩
  rw [← hp] at ep hap q2 I3 d1 hs hd0 ⊢
  have hfr := I3.hok.fresh (Nat.le_refl h'.objs.size)
  have hqp : h'.objs.size ≠ p := fun e => by
    rw [e, upd_same] at hfr
    exact nomatch hfr
  have hq1 : H1 h'.objs.size = none := by
    rw [upd_ne hqp] at hfr
    exact hfr
  have I4 := I3.laid (a := h'.objs.size) (o := .dK []) (h' := h'.push { cls := .type "dict", data := .dict #[] }) (t' := s1.toks) (fun _ _ q => Heap.get?_push_of_some _ q) (Nat.le_refl _) (dk_empty h' I3.big)
  obtain ⟨q0, hq0⟩ : ∃ q0, q0 = h'.objs.size := ⟨_, rfl⟩
  have q3 := q2 _ hq1 hqp
  refine wpAny_subDict (knd := mixKind X.prog X.w) (s := { s1 with heap := h' }) (Nat.le_add_left 1 14) ?_
  refine thn ((pps_cons hk hv pps_nil).run pins _ σ _ (fun ps H3 => match ps with
    | [(y, z)] => H3 p = some (.dK kvs) ∧ H3 h'.objs.size = some (.dK []) ∧ ∃ k, y = kV k ∧ Q (.ref p) (upd (upd H3 h'.objs.size (.dK [(k, z)])) p (.dK (putK kvs k z)))
    | _ => False) I4 q3) fun ws s2 ⟨ps, H3, I5, rw5, q5⟩ => ?_
  match ps, q5, rw5 with
  | [], q5, _ => exact q5.elim
  | _ :: _ :: _, q5, _ => exact q5.elim
  | [(y, z)], q5, rw5 =>
    obtain ⟨e1, e2, k, ek', q6⟩ := q5
    subst ek'
    obtain ⟨rs, cr, rk⟩ := carries_of (P := X.prog) (w := X.w) (kvs := [(k, z)]) rw5
    obtain ⟨zq, hdq, vsq, rq, ddq⟩ := dk_of I5.hok e2
    cases rq
    refine ⟨rs, cr, ddq, fun h2 dd2 hs2 => fun E2 => ?_⟩
    have he2 : ∃ q, h2.get? h'.objs.size = some q := let ⟨q, _, _, hq, _⟩ := dd2; ⟨q, hq⟩
    have hz1 : ([(k, z)] : List (Key × V)).length ≤ sizeLine := by
      rw [sizeLine_eq]
      show 1 ≤ _
      omega
    have hrl : rs.length = 1 := by
      have a2 := rk.length
      rw [List.length_singleton] at a2
      exact a2.symm
    have hnd2 : (rs.map (·.1)).Nodup := by
      obtain ⟨r, hr⟩ := List.length_eq_one_iff.mp hrl
      rw [hr]
      simp
    have dd2' : h2.DictOf (mixKind X.prog X.w) h'.objs.size rs := by
      have hm := merged_nil_of_nodup rs hnd2
      rw [hm] at dd2
      exact dd2
    have I6 := d_write (t' := s2.toks + ws.length) I5 (by rw [e2]; exact True.intro) hs2 he2 (dk_new hz1 hdq rk dd2')
    have e1' : upd H3 h'.objs.size (.dK [(k, z)]) p = some (.dK kvs) := by rw [upd_ne (Ne.symm hqp)]; exact e1
    obtain ⟨zp, hdp, vsp, rp, ddp⟩ := dk_of I6.hok e1'
    have hsz : vsp.length + rs.length ≤ sizeLine := by
      have a1 := rp.length
      have a2 := rk.length
      rw [List.length_singleton] at a2
      omega
    refine wpAny_mergeM (knd := mixKind X.prog X.w) (s := { s2 with heap := h2, toks := s2.toks + ws.length }) (Ne.symm hqp) hdq ddp dd2' (fun h3 d3 _ hs3 => ?_) hsz
    have he3 : ∃ q, h3.get? p = some q := let ⟨q, _, _, hq, _⟩ := d3; ⟨q, hq⟩
    have hput : KV (putK kvs k z) (merged vsp rs) := by
      have := KV.merge rk rp
      exact this
    have hz3 : (putK kvs k z).length ≤ sizeLine := by
      have := length_putK kvs k z
      omega
    exact ⟨.ref p, _, d_write (t' := s2.toks + ws.length) I6 (by rw [e1']; exact True.intro) hs3 he3 (dk_new hz3 hdp hput d3), rfl, q6⟩
end Ev

end
section
set_option linter.all false
set_option maxHeartbeats 4000000
namespace Ev
open PySem PySem.Spec PyProof.Rows L2
theorem dt_new {P : Program} {w : World} {H' : Hp} {h' : Heap} {a : Addr} {kvs : List (List Key × V)} {xs : List (List Key × Addr × Value)} (z : kvs.length ≤ sizeLine) (hd : (a == sysModules) = false) (rel : KT H' kvs xs) (dd : h'.DictOfH (tupleKind (mixKind P w)) a xs) :
    ObjOk P w H' h' a (.dT kvs) := by
  obtain ⟨q, es, ep, hq, h2, h3, h4, _, h5⟩ := dd
  exact ⟨z, hd, xs, rel, q, es, ep, hq, h2, h3, h4, h5⟩
theorem upd_tup {H : Hp} {p : Addr} {kvs qvs : List (List Key × V)} (e : H p = some (.dT kvs)) : ∀ b ys, H b = some (.tup ys) → upd H p (.dT qvs) b = some (.tup ys) := fun b ys eb => by
  rw [upd_ne (ne_of eb e (fun z => nomatch z))]
  exact eb
theorem KT.keys {H : Hp} {kvs : List (List Key × V)} {xs : List (List Key × Addr × Value)} (r : KT H kvs xs) : kvs.map (·.1) = xs.map (·.1) := by
  induction r with
  | nil => rfl
  | @cons p q ps qs h t ih => rw [List.map_cons, List.map_cons, ih, h.1]
/-- {**d, k: v}, with keys tuples -/
def tStarT (X : Cx) (td tk tv : TE) : TE := fun σ H Q => ∀ p, H p = none → td σ (upd H p (.dT [])) fun x H1 => H1 p = some (.dT []) ∧ ∃ a kvs, x = .ref a ∧ a ≠ p ∧ Rd H1 a (.dT kvs) ∧ kvs.length < sizeLine ∧ (kvs.map fun kv => tupleKeyHash (mixKind X.prog X.w) kv.1).Nodup ∧
  ∀ q, H1 q = none → q ≠ p → tk σ (upd (upd H1 p (.dT kvs)) q (.dT [])) fun y H2 => tv σ H2 fun z H3 => H3 p = some (.dT kvs) ∧ H3 q = some (.dT []) ∧ ∃ b ks, y = .ref b ∧ H3 b = some (.tup (ks.map kV)) ∧ Q (.ref p) (upd (upd H3 q (.dT [(ks, z)])) p (.dT (putK kvs ks z)))
theorem pe_starT {X : Cx} {pos : Pos} {ed ek ev : Expr} {td tk tv : TE} (hu : X.A.units < cLine) (hd : PE X ed td) (hk : PE X ek tk) (hv : PE X ev tv) : PE X (.Dict [none, some ek] [ed, ev] pos) (tStarT X td tk tv) := by
  refine ⟨fun pins s σ H Q I q => ?_⟩
  have hn := I.hok.fresh (Nat.le_refl s.heap.objs.size)
  have I1 := I.laid (a := s.heap.objs.size) (o := .dT []) (h' := s.heap.push { cls := .type "dict", data := .dict #[] }) (t' := s.toks) (fun _ _ q => Heap.get?_push_of_some _ q) (Nat.le_refl _) (dt_empty s.heap I.big)
  rw [arm_eval_Dict]
  refine wpAny_bind (wpAny_standAt ?_)
  refine wpAny_star ?_
  refine wpAny_bind (thn (hd.run pins _ σ _ _ I1 (q _ hn)) fun u s1 ⟨x, H1, I2, rx, q1⟩ => ?_)
  obtain ⟨ep, a, kvs, rfl, hap, ra, hl, hnd, q2⟩ := q1
  cases (show u = Value.ref a from rx)
  refine wpAny_bind (wpAny_standAt (wpAny_pure fun E' => ?_))
  obtain ⟨z, hdm, xs, rel, dd⟩ := dt_rd I2.hok ra
  obtain ⟨z0, hd0, xs0, r0, dd0⟩ := dt_of I2.hok ep
  cases r0
  have hvl : xs.length = kvs.length := (Paired.length rel).symm
  have hty : ∀ x ∈ xs, s1.TypeIs (.ref x.2.1) "tuple" := fun x hx => by
    obtain ⟨_, _, _, _, _, _, _, his, _⟩ := dd
    exact IsTupleKey.typeIs (his x hx)
  have hkeys := KT.keys rel
  have hnd' : (xs.map fun x => (tupleKind (mixKind X.prog X.w)).hash x.1).Nodup := by
    have e : (xs.map fun x => (tupleKind (mixKind X.prog X.w)).hash x.1) = (xs.map (·.1)).map (tupleKeyHash (mixKind X.prog X.w)) := by
      rw [List.map_map]
      rfl
    rw [e, ← hkeys, List.map_map]
    exact hnd
  have hno : (xs.map (·.1)).Nodup := Heap.DictOfH.nodup dd
  refine wpAny_mergeM_heap (knd := tupleKind (mixKind X.prog X.w)) hu (Ne.symm hap) hdm dd0 dd (.inr ⟨hty, hnd'⟩) (fun h' d1 d2 hs => ?_) (by rw [List.length_nil]; omega)
  rw [storedAllH_nil_of_nodup xs hno] at d1
  have he : ∃ q, h'.get? s.heap.objs.size = some q := let ⟨q, _, _, hq, _⟩ := d1; ⟨q, hq⟩
  have I3 := d_write (t' := s1.toks) I2 (by rw [ep]; exact True.intro) hs he (dt_new z hd0 (rel.keeps (upd_tup (qvs := kvs) ep)) d1)
  obtain ⟨p, hp⟩ : ∃ p, p = s.heap.objs.size := ⟨_, rfl⟩
  rw [← hp] at ep hap q2 I3 d1 hs hd0 ⊢
  have hfr := I3.hok.fresh (Nat.le_refl h'.objs.size)
  have hqp : h'.objs.size ≠ p := fun e => by
    rw [e, upd_same] at hfr
    exact nomatch hfr
  have hq1 : H1 h'.objs.size = none := by
    rw [upd_ne hqp] at hfr
    exact hfr
  have I4 := I3.laid (a := h'.objs.size) (o := .dT []) (h' := h'.push { cls := .type "dict", data := .dict #[] }) (t' := s1.toks) (fun _ _ q => Heap.get?_push_of_some _ q) (Nat.le_refl _) (dt_empty h' I3.big)
  have q3 := q2 _ hq1 hqp
  refine wpAny_subDict_any (s := { s1 with heap := h' }) (Nat.le_add_left 1 14) ?_
  refine thn ((pps_cons hk hv pps_nil).run pins _ σ _ (fun ps H3 => match ps with
    | [(y, z)] => H3 p = some (.dT kvs) ∧ H3 h'.objs.size = some (.dT []) ∧ ∃ b ks, y = .ref b ∧ H3 b = some (.tup (ks.map kV)) ∧ Q (.ref p) (upd (upd H3 h'.objs.size (.dT [(ks, z)])) p (.dT (putK kvs ks z)))
    | _ => False) I4 q3) fun ws s2 ⟨ps, H3, I5, rw5, q5⟩ => ?_
  match ps, q5, rw5 with
  | [], q5, _ => exact q5.elim
  | _ :: _ :: _, q5, _ => exact q5.elim
  | [(y, z)], q5, rw5 =>
    obtain ⟨e1, e2, b, ks, rfl, e3, q6⟩ := q5
    obtain ⟨u2, ew⟩ : ∃ u2, ws = [(.ref b, u2)] ∧ RelV z u2 := by
      cases rw5 with
      | @cons _ w1 _ w2 h1 h2 =>
        cases h2
        obtain ⟨h3, h4⟩ := h1
        exact ⟨w1.2, by rw [show w1 = (w1.1, w1.2) from rfl, show w1.1 = Value.ref b from h3], h4⟩
    obtain ⟨ew, rz⟩ := ew
    subst ew
    obtain ⟨zq, hdq, xq, rq, ddq⟩ := dt_of I5.hok e2
    cases rq
    have kb := key_of I5.hok e3
    show wpAny _ _ (storeAll h'.objs.size [(Value.ref b, u2)]) _ _ _
    unfold storeAll
    rw [List.forIn_cons]
    refine wpAny_bind (wpAny_bind (wpAny_dictSet_heap (hsz := Nat.zero_le _) (knd := tupleKind (mixKind X.prog X.w)) hu kb ddq fun h2 dd2 hs2 => wpAny_pure ?_))
    dsimp only
    rw [List.forIn_nil]
    refine wpAny_pure fun E2 => ?_
    have es : storedH ([] : List (List Key × Addr × Value)) ks b u2 = [(ks, b, u2)] := rfl
    rw [es] at dd2
    have he2 : ∃ q, h2.get? h'.objs.size = some q := let ⟨q, _, _, hq, _⟩ := dd2; ⟨q, hq⟩
    have hz1 : ([(ks, z)] : List (List Key × V)).length ≤ sizeLine := by
      rw [sizeLine_eq]
      show 1 ≤ _
      omega
    have rk : KT H3 [(ks, z)] [(ks, b, u2)] := .cons ⟨rfl, e3, rz⟩ .nil
    have I6 := d_write (t' := s2.toks + (tupleKind (mixKind X.prog X.w)).draws ks) I5 (by rw [e2]; exact True.intro) hs2 he2 (dt_new hz1 hdq (rk.keeps (upd_tup (qvs := [(ks, z)]) e2)) dd2)
    have e1' : upd H3 h'.objs.size (.dT [(ks, z)]) p = some (.dT kvs) := by rw [upd_ne (Ne.symm hqp)]; exact e1
    have e3' : upd H3 h'.objs.size (.dT [(ks, z)]) b = some (.tup (ks.map kV)) := upd_tup (qvs := [(ks, z)]) e2 _ _ e3
    obtain ⟨zp, hdp, xp, rp, ddp⟩ := dt_of I6.hok e1'
    obtain ⟨zq2, _, xq2, rq2, ddq2⟩ := dt_of I6.hok (a := h'.objs.size) (kvs := [(ks, z)]) upd_same
    have hsz : xp.length + [(ks, b, u2)].length ≤ sizeLine := by
      have a1 := Paired.length rp
      rw [List.length_singleton]
      omega
    have hty2 : ∀ x ∈ [(ks, b, u2)], ({ s2 with heap := h2, toks := s2.toks + (tupleKind (mixKind X.prog X.w)).draws ks } : Shared).TypeIs (.ref x.2.1) "tuple" := fun x hx => by
      obtain ⟨_, _, _, _, _, _, _, his, _⟩ := dd2
      exact IsTupleKey.typeIs (his x hx)
    refine wpAny_mergeM_heap (knd := tupleKind (mixKind X.prog X.w)) (s := { s2 with heap := h2, toks := s2.toks + (tupleKind (mixKind X.prog X.w)).draws ks }) hu (Ne.symm hqp) hdq ddp dd2 (.inr ⟨hty2, by simp⟩) (fun h3 d3 _ hs3 => ?_) hsz
    have he3 : ∃ q, h3.get? p = some q := let ⟨q, _, _, hq, _⟩ := d3; ⟨q, hq⟩
    have hput : KT (upd H3 h'.objs.size (.dT [(ks, z)])) (putK kvs ks z) (storedH xp ks b u2) := rp.put ks e3' rz
    have hz3 : (putK kvs ks z).length ≤ sizeLine := by
      have := length_putK kvs ks z
      omega
    exact ⟨.ref p, _, d_write (t' := s2.toks + (tupleKind (mixKind X.prog X.w)).draws ks) I6 (by rw [e1']; exact True.intro) hs3 he3 (dt_new hz3 hdp (hput.keeps (upd_tup (qvs := putK kvs ks z) e1')) d3), rfl, q6⟩
end Ev

end
section
set_option linter.all false
set_option maxHeartbeats 4000000
/-! Empty dicts; a dict and one pair more; looking up. -/
namespace Ev
open PySem PySem.Spec PyProof.Rows L2
section
variable {K : Fg} {B : Bs} {σ : L2.St} {r r1 : Env} {F H F1 H1 : Hp}
/-- a new address that no slot has -/
theorem away {p : Addr} {o : HO} (pp : Post K B σ r F H r1 F1 H1) (hp : H p = some o) (fp : F p = none) (no : ¬ Own σ r p) (nt : ∀ xs, o ≠ .tup xs := by exact fun _ z => nomatch z) (pl : Pl (some o) := by first | exact pl_lst | exact pl_dK | exact pl_dT | exact pl_frz | exact pl_tup | exact pl_ob (by assumption) | exact pl_none) : H1 p = some o ∧ F1 p = none ∧ ¬ Own σ r1 p := by
  refine ⟨pp.frame.at_ p _ hp no pl, ?_, fun q => no (pp.own p q)⟩
  cases q : F1 p with
  | none => rfl
  | some u =>
    rcases pp.fr p (by rw [q]; simp) with w | w | w
    · exact absurd fp w
    · exact (w.no hp nt pl).elim
    · exact absurd w no
theorem post_upd {p : Addr} {o : HO} (pp : Post K B σ r F H r1 F1 H1) (hp : nT H p = none) (fp : F1 p = none) (no : ¬ Own σ r1 p) (pl : Pl (H1 p) := by first | exact pl_at (by assumption) (by first | exact pl_dK | exact pl_dT | exact pl_lst | exact pl_tup) | exact pl_ne (Ne.symm (by assumption)) (pl_at (by assumption) (by first | exact pl_dK | exact pl_dT | exact pl_lst | exact pl_tup)) | exact pl_at upd_same (by first | exact pl_dK | exact pl_dT | exact pl_lst | exact pl_tup)) (po : Pl (some o) := by first | exact pl_lst | exact pl_dK | exact pl_dT | exact pl_frz | exact pl_tup | exact pl_ob (by assumption) | exact pl_none) : Post K B σ r F H r1 F1 (upd H1 p o) := by
  refine ⟨st_upd pp.st fp no pl po, pp.mono, pp.frame.trans (Kp.put (O := fun a => a = p) rfl pl) (fun c z => .inr (by rw [z]; exact hp)), fun a ha => ?_, pp.fr, pp.own⟩
  · exact dom_put (by first | exact po | exact pl_lst | exact pl_dK | exact pl_dT | exact pl_frz | exact pl_tup | exact pl_ob (by assumption) | exact pl_none) pp.dom a ha
theorem new_away {p : Addr} {o : HO} (st : StR K B F H σ r) (hp : H p = none) : F p = none ∧ ¬ Own σ r p := by
  refine ⟨?_, fun q => ?_⟩
  · cases q : F p with
    | none => rfl
    | some u =>
      rw [st.sub _ _ q] at hp
      cases hp
  · obtain ⟨o, eo, _⟩ := st.ownH q
    rw [hp] at eo
    cases eo
/-- a dict with keys by value, not at p -/
theorem deref_dic {H0 : Hp} {t : TV} {x : V} {ps : List (D × D)} {p : Addr} (s : StR K B F H σ r) (h : TvR K H0 σ F H t x) (e : deref r t = some (.dict ps)) (hk : ps.all (fun q => isKey q.1) = true) (h0 : nT H0 p ≠ none) (fp : F p = none) (no : ¬ Own σ r p) :
    ∃ a kvs, x = .ref a ∧ Rd H a (.dK kvs) ∧ RpK K F kvs ps ∧ a ≠ p := by
  have rp : ∀ x, Rp K F x (.dict ps) → ∃ a kvs, x = .ref a ∧ Rd H a (.dK kvs) ∧ RpK K F kvs ps ∧ a ≠ p := fun x h => by
    cases h with
    | dic h1 h2 => exact ⟨_, _, rfl, s.sub.rd h1, h2, fun z => by rw [z] at h1; rcases h1 with h1 | ⟨_, h1⟩ <;> (rw [fp] at h1; cases h1)⟩
    | dit h1 h2 => simp [isKey] at hk
    | scr h1 h2 => simp [isKey] at hk
  have ob : ∀ o, ObR K F o (.dict ps) → ∃ kvs, o = .dK kvs ∧ RpK K F kvs ps := fun o h => by
    rcases h with ⟨kvs, e3, h2⟩ | ⟨kvs, qs, e0, e3, h2⟩
    · exact ⟨kvs, e3, h2⟩
    · subst e0
      simp [isKey] at hk
  cases t with
  | d v =>
    cases (show some v = some _ from e)
    exact rp x h
  | f v =>
    cases (show some v = some _ from e)
    obtain ⟨q, o, e0, e1, _, e3, e4⟩ := h
    obtain ⟨kvs, e5, h2⟩ := ob o e3
    subst e5
    exact ⟨q, kvs, e0, .inl e1, h2, fun z => h0 (by rw [← z]; exact e4)⟩
  | s i =>
    have h : σ[i]? = some (some x) := h
    have oc : ∀ c, (r[i]? = some (.own c) ∨ r[i]? = some (.bor c)) → c = .dict ps → ∃ a kvs, x = .ref a ∧ Rd H a (.dK kvs) ∧ RpK K F kvs ps ∧ a ≠ p := fun c hc ec => by
      subst ec
      obtain ⟨a, o, e1, e2, _, e4⟩ := s.obj i _ hc
      rw [h] at e1
      cases e1
      obtain ⟨kvs, e5, h2⟩ := ob o e4
      subst e5
      exact ⟨a, kvs, rfl, .inl e2, h2, fun z => no ⟨i, _, hc, by rw [← z]; exact h⟩⟩
    unfold deref at e
    simp only at e
    split at e
    · rename_i c hc
      cases e
      obtain ⟨y, e1, e2⟩ := s.val i _ hc
      rw [h] at e1
      cases e1
      exact rp _ e2
    · rename_i c hc
      exact oc c (.inl hc) (by cases e; rfl)
    · rename_i c hc
      exact oc c (.inr hc) (by cases e; rfl)
    · cases e
theorem RpK.length : ∀ {kvs : List (Key × V)} {ps : List (D × D)}, RpK K F kvs ps → kvs.length = ps.length
  | _, _, .nil => rfl
  | _, _, .cons _ r => by rw [List.length_cons, List.length_cons, RpK.length r]
theorem RpT.length : ∀ {kvs : List (List Key × V)} {ps : List (D × D)}, RpT K F kvs ps → kvs.length = ps.length
  | _, _, .nil => rfl
  | _, _, .cons _ r => by rw [List.length_cons, List.length_cons, RpT.length r]
end
section
variable {X : Cx} {B : Bs} {o e k d ed ek ev : Expr} {pos : Pos} {f g h : Env → Res TV}
theorem rd_emp (t : Bool) : PE X (.Dict [] [] pos) (RdE X.K B fun r => .ok (.f (.dict (if t = true then [markT] else []))) r) := by
  cases t
  · refine PE.imp pe_dnewK fun σ H Q ⟨F, r, st, tv, r', e, c⟩ p hp => ?_
    cases e
    have lp := laid (o := .dK []) st hp
    exact c _ F _ lp ⟨p, _, rfl, upd_same, (new_away (o := .dK []) st hp).1, .inl ⟨_, rfl, .nil⟩, nT_none hp⟩
  · refine PE.imp pe_dnewT fun σ H Q ⟨F, r, st, tv, r', e, c⟩ p hp => ?_
    cases e
    have lp := laid (o := .dT []) st hp
    exact c _ F _ lp ⟨p, _, rfl, upd_same, (new_away (o := .dT []) st hp).1, .inr ⟨_, _, rfl, rfl, .nil⟩, nT_none hp⟩
theorem rd_sdk (hd : PE X ed (RdE X.K B f)) (hk : PE X ek (RdE X.K B g)) (hv : PE X ev (RdE X.K B h)) :
    PE X (.Dict [none, some ek] [ed, ev] pos) (RdE X.K B fun r => (f r).bind fun x r1 => match deref r1 x with
      | some u => (g r1).bind fun y r2 => (h r2).bind fun z r3 => (solidR r3 z).bind fun w r4 => match deref r4 y with
        | some kd => .of ((mrgK u kd w).map .f) r4
        | none => .stuck
      | none => .stuck) := by
  refine PE.imp (pe_starK hd hk hv) fun σ H Q ⟨F, r, st, t, r', e, c⟩ p hp => ?_
  obtain ⟨x, r1, e1, e⟩ := bind_inv e
  split at e
  · rename_i u hu
    obtain ⟨y, r2, e2, e⟩ := bind_inv e
    obtain ⟨z, r3, e3, e⟩ := bind_inv e
    obtain ⟨w, r4, e4, e⟩ := bind_inv e
    split at e
    · rename_i kd hkd
      obtain ⟨e5, rfl⟩ := of_inv e
      rw [Option.map_eq_some_iff] at e5
      obtain ⟨rd, e5, rfl⟩ := e5
      unfold mrgK at e5
      split at e5
      · rename_i ps ky vl
        split at e5
        · rename_i hc
          simp only [Bool.and_eq_true, decide_eq_true_eq] at hc
          obtain ⟨⟨c1, c2⟩, c3⟩ := hc
          cases e5
          obtain ⟨fp, no⟩ := new_away (o := .dK []) st hp
          have lp := laid (o := .dK []) st hp
          refine ⟨F, r, lp.st, x, r1, e1, fun xv F1 H1 p1 t1 => ?_⟩
          obtain ⟨hp1, fp1, no1⟩ := away p1 upd_same fp no
          obtain ⟨a, kvs, ea, ha, rk, hap⟩ := deref_dic p1.st t1 hu c2 (p := p) (nT_ne upd_same (fun _ z => nomatch z)) fp1 no1
          have hl : kvs.length < sizeLine := by rw [rk.length, ← szl]; exact c3
          refine ⟨hp1, a, kvs, ea, hap, ha, hl, fun q hq hqp => ?_⟩
          have P1 := post_upd (o := .dK kvs) (lp.trans p1) (nT_none hp) fp1 no1
          have hq' : upd H1 p (.dK kvs) q = none := by rw [upd_ne hqp]; exact hq
          obtain ⟨fq, nq⟩ := new_away (o := .dK []) P1.st hq'
          have lq := laid (o := .dK []) P1.st hq'
          refine ⟨F1, r1, lq.st, y, r2, e2, fun yv F2 H2 p2 t2 => ⟨F2, r2, p2.st, z, r3, e3, fun zv F3 H3 p3 t3 => ?_⟩⟩
          obtain ⟨F4, p4, h4, _⟩ := solid_post p2.st p3 t3 (solidR_ok e4)
          have p24 := p2.trans p4
          have hpq : upd (upd H1 p (.dK kvs)) q (.dK []) p = some (.dK kvs) := by rw [upd_ne (Ne.symm hqp), upd_same]
          obtain ⟨hp4, fp4, no4⟩ := away p24 hpq fp1 no1
          obtain ⟨hq4, fq4, nq4⟩ := away p24 upd_same fq nq
          obtain ⟨kk, rfl⟩ := key_of_isKey c1
          have t2' := t2.keep p4 (p2.ne lq.st)
          have ey := rq_key (deref_rq p4.st t2' hkd)
          refine ⟨hp4, hq4, kk, ey, ?_⟩
          have hHq : nT H q = none := Classical.byContradiction fun n => (lp.trans p1).dom q n (nT_none hq)
          have P4 := post_upd (o := .dK [(kk, zv)]) ((P1.trans lq).trans p24) hHq fq4 nq4
          have P5 := post_upd (o := .dK (putK kvs kk zv)) P4 (nT_none hp) fp4 no4
          exact c _ F4 _ P5 ⟨p, _, rfl, upd_same, fp4, .inl ⟨_, rfl, (rk.mono p24.mono).put kk h4⟩, nT_none hp⟩
        · cases e5
      · cases e5
    · cases e
  · cases e
end
end Ev

end
section
set_option linter.all false
set_option maxHeartbeats 4000000
/-! Dicts whose keys are tuples. -/
namespace Ev
open PySem PySem.Spec PyProof.Rows L2
section
variable {K : Fg} {F : Hp}
theorem intsL_keys : ∀ {k : List Key} {l : List Int}, intsL (k.map keyD) = some l → k = l.map Sum.inl
  | [], l, h => by cases h; rfl
  | .inl i :: k, l, h => by
    have h' : (intsL (k.map keyD)).map (i :: ·) = some l := h
    rw [Option.map_eq_some_iff] at h'
    obtain ⟨m, h1, h2⟩ := h'
    rw [← h2, intsL_keys h1]
    rfl
  | .inr x :: k, l, h => nomatch h
theorem hashes_ok {P : Program} {w : World} : ∀ {kvs : List (List Key × V)} {ps : List (D × D)} {hs : List Int}, RpT K F kvs ps → hashesT ps = some hs → (kvs.map fun kv => tupleKeyHash (mixKind P w) kv.1) = hs
  | _, _, hs, .nil, h => by cases h; rfl
  | _, _, hs, .cons (k := k) h r, e => by
    unfold hashesT at e
    split at e
    · rename_i l hs' e1 e2
      cases e
      have hk := intsL_keys (show intsL (k.map keyD) = some l from e1)
      rw [List.map_cons, hashes_ok r e2]
      congr 1
      show tupleKeyHash (mixKind P w) k = hashI l
      rw [hk]
      unfold tupleKeyHash hashI
      rw [List.map_map]
      rfl
    · cases e
theorem nodupI_ok : ∀ {l : List Int}, nodupI l = true → l.Nodup
  | [], _ => List.nodup_nil
  | x :: r, h => by
    unfold nodupI at h
    rw [Bool.and_eq_true] at h
    rw [List.nodup_cons]
    have hn : ¬ x ∈ r := by simpa using h.1
    exact ⟨hn, nodupI_ok h.2⟩
end
end Ev

end
section
set_option linter.all false
set_option maxHeartbeats 4000000
/-! Readings of dicts. -/
namespace Ev
open PySem PySem.Spec PyProof.Rows L2
section
variable {K : Fg} {B : Bs} {σ : L2.St} {r : Env} {F H : Hp}
/-- a dict with tuple keys, not at p -/
theorem deref_dit {H0 : Hp} {t : TV} {x : V} {ps : List (D × D)} {p : Addr} (s : StR K B F H σ r) (h : TvR K H0 σ F H t x) (e : deref r t = some (.dict ((.none, .int 0) :: ps))) (h0 : nT H0 p ≠ none) (fp : F p = none) (no : ¬ Own σ r p) :
    ∃ a kvs, x = .ref a ∧ Rd H a (.dT kvs) ∧ RpT K F kvs ps ∧ a ≠ p := by
  have rp : ∀ x, Rp K F x (.dict ((.none, .int 0) :: ps)) → ∃ a kvs, x = .ref a ∧ Rd H a (.dT kvs) ∧ RpT K F kvs ps ∧ a ≠ p := fun x h => by
    obtain ⟨a, kvs, e1, e2, e3⟩ := Rq.dit (K := K) (Sub.refl F) (Or.inl h : Rq K F F x _)
    exact ⟨a, kvs, e1, s.sub.rd e2, e3, fun z => by rw [z] at e2; rcases e2 with e2 | ⟨_, e2⟩ <;> (rw [fp] at e2; cases e2)⟩
  have ob : ∀ o b, H b = some o → ObR K F o (.dict ((.none, .int 0) :: ps)) → ∃ kvs, o = .dT kvs ∧ RpT K F kvs ps := fun o b hb h => by
    obtain ⟨a, kvs, e1, e2, e3⟩ := ditO hb h
    cases e1
    rw [hb] at e2
    cases e2
    exact ⟨kvs, rfl, e3⟩
  cases t with
  | d v =>
    cases (show some v = some _ from e)
    exact rp x h
  | f v =>
    cases (show some v = some _ from e)
    obtain ⟨q, o, e0, e1, _, e3, e4⟩ := h
    obtain ⟨kvs, e5, h2⟩ := ob o q e1 e3
    subst e5
    exact ⟨q, kvs, e0, .inl e1, h2, fun z => h0 (by rw [← z]; exact e4)⟩
  | s i =>
    have h : σ[i]? = some (some x) := h
    have oc : ∀ c, (r[i]? = some (.own c) ∨ r[i]? = some (.bor c)) → c = .dict ((.none, .int 0) :: ps) → ∃ a kvs, x = .ref a ∧ Rd H a (.dT kvs) ∧ RpT K F kvs ps ∧ a ≠ p := fun c hc ec => by
      subst ec
      obtain ⟨a, o, e1, e2, _, e4⟩ := s.obj i _ hc
      rw [h] at e1
      cases e1
      obtain ⟨kvs, e5, h2⟩ := ob o a e2 e4
      subst e5
      exact ⟨a, kvs, rfl, .inl e2, h2, fun z => no ⟨i, _, hc, by rw [← z]; exact h⟩⟩
    unfold deref at e
    simp only at e
    split at e
    · rename_i c hc
      cases e
      obtain ⟨y, e1, e2⟩ := s.val i _ hc
      rw [h] at e1
      cases e1
      exact rp _ e2
    · rename_i c hc
      exact oc c (.inl hc) (by cases e; rfl)
    · rename_i c hc
      exact oc c (.inr hc) (by cases e; rfl)
    · cases e
end
section
variable {X : Cx} {B : Bs} {o e k d ed ev : Expr} {es : List Expr} {pos tpos : Pos} {ctx : Nat} {f g h : Env → Res TV} {l : Env → Res (List D)}
theorem rd_sdt (hu : X.A.units < cLine) (hd : PE X ed (RdE X.K B f)) (hk : PA X es (RdA X.K B l)) (hv : PE X ev (RdE X.K B h)) :
    PE X (.Dict [none, some (.Tuple es ctx tpos)] [ed, ev] pos) (RdE X.K B fun r => (f r).bind fun x r1 => match deref r1 x with
      | some u => (l r1).bind fun ds r2 => (h r2).bind fun z r3 => (solidR r3 z).bind fun w r4 => .of ((mrgT u ds w).map .f) r4
      | none => .stuck) := by
  refine PE.imp (pe_starT hu hd (pe_tup hk) hv) fun σ H Q ⟨F, r, st, t, r', e, c⟩ p hp => ?_
  obtain ⟨x, r1, e1, e⟩ := bind_inv e
  split at e
  · rename_i u hu'
    obtain ⟨ds, r2, e2, e⟩ := bind_inv e
    obtain ⟨z, r3, e3, e⟩ := bind_inv e
    obtain ⟨w, r4, e4, e⟩ := bind_inv e
    obtain ⟨e5, rfl⟩ := of_inv e
    rw [Option.map_eq_some_iff] at e5
    obtain ⟨rd, e5, rfl⟩ := e5
    unfold mrgT at e5
    split at e5
    · rename_i ps ks vl
      split at e5
      · rename_i hs hh
        split at e5
        · rename_i hc
          simp only [Bool.and_eq_true, decide_eq_true_eq] at hc
          obtain ⟨⟨⟨c1, c0⟩, c2⟩, c3⟩ := hc
          cases e5
          obtain ⟨fp, no⟩ := new_away (o := .dT []) st hp
          have lp := laid (o := .dT []) st hp
          refine ⟨F, r, lp.st, x, r1, e1, fun xv F1 H1 p1 t1 => ?_⟩
          obtain ⟨hp1, fp1, no1⟩ := away p1 upd_same fp no
          obtain ⟨a, kvs, ea, ha, rk, hap⟩ := deref_dit p1.st t1 hu' (p := p) (nT_ne upd_same (fun _ z => nomatch z)) fp1 no1
          have hl : kvs.length < sizeLine := by rw [rk.length, ← szl]; exact c3
          have hnd : (kvs.map fun kv => tupleKeyHash (mixKind X.prog X.w) kv.1).Nodup := by
            rw [hashes_ok rk hh]
            exact nodupI_ok c2
          refine ⟨hp1, a, kvs, ea, hap, ha, hl, hnd, fun q hq hqp => ?_⟩
          have P1 := post_upd (o := .dT kvs) (lp.trans p1) (nT_none hp) fp1 no1
          have hq' : upd H1 p (.dT kvs) q = none := by rw [upd_ne hqp]; exact hq
          obtain ⟨fq, nq⟩ := new_away (o := .dT []) P1.st hq'
          have lq := laid (o := .dT []) P1.st hq'
          refine ⟨F1, r1, lq.st, ds, r2, e2, fun xs F2 H2 p2 rl => ?_⟩
          obtain ⟨kk, e6, e7⟩ := keysL rl c1
          subst e6 e7
          refine ⟨?_, fun b hb => ?_⟩
          · rw [List.length_map] at c0 ⊢
            rw [← szl]
            exact c0
          · have lb := laid (o := .tup (kk.map kV)) p2.st hb
            obtain ⟨fb, nb⟩ := new_away (o := .tup (kk.map kV)) p2.st hb
            refine ⟨F2, r2, lb.st, z, r3, e3, fun zv F3 H3 p3 t3 => ?_⟩
            obtain ⟨F4, p4, h4, _⟩ := solid_post lb.st p3 t3 (solidR_ok e4)
            have hb4 := p4.frame.at_ _ _ upd_same nb pl_tup
            have p24 := (p2.trans lb).trans p4
            have hpq : upd (upd H1 p (.dT kvs)) q (.dT []) p = some (.dT kvs) := by rw [upd_ne (Ne.symm hqp), upd_same]
            obtain ⟨hp4, fp4, no4⟩ := away p24 hpq fp1 no1
            obtain ⟨hq4, fq4, nq4⟩ := away p24 upd_same fq nq
            refine ⟨hp4, hq4, b, kk, rfl, hb4, ?_⟩
            have hHq : nT H q = none := Classical.byContradiction fun n => (lp.trans p1).dom q n (nT_none hq)
            have P4 := post_upd (o := .dT [(kk, zv)]) ((P1.trans lq).trans p24) hHq fq4 nq4
            have P5 := post_upd (o := .dT (putK kvs kk zv)) P4 (nT_none hp) fp4 no4
            exact c _ F4 _ P5 ⟨p, _, rfl, upd_same, fp4, .inr ⟨_, _, rfl, rfl, (rk.mono p24.mono).put kk h4⟩, nT_none hp⟩
        · cases e5
      · cases e5
    · cases e5
  · cases e
end
end Ev

end
section
set_option linter.all false
set_option maxHeartbeats 4000000
/-! Looking up in dicts. -/
namespace Ev
open PySem PySem.Spec PyProof.Rows L2
section
variable {K : Fg} {B : Bs} {σ : L2.St} {r : Env} {F H : Hp}
theorem dget_ref {x : V} {u v : D} {t : Option D} (s : Sub F H) (hx : Rq K F H x u) (e : getD1 u v = some t) : ∃ a, x = .ref a := by
  unfold getD1 at e
  split at e
  · rename_i ps ks
    split at e
    · rename_i hk
      unfold getT at e
      split at e
      · rename_i ps2 ks2 eu
        cases eu
        obtain ⟨a, kvs, e1, _⟩ := Rq.dit s hx
        exact ⟨a, e1⟩
      · cases e
    · cases e
  · split at e
    · rename_i w
      rw [Bool.and_eq_true] at w
      obtain ⟨a, kvs, e1, _⟩ := hx.dic s w.2
      exact ⟨a, e1⟩
    · cases e
  · cases e
/-- what a dict with tuple keys holds -/
theorem tget_of {x : V} {b : Addr} {u : D} {xs : List V} {ds : List D} {t : Option D} (s : Sub F H) (hx : Rq K F H x u) (hl : RpL K F xs ds) (hb : H b = some (.tup xs)) (e : getT u ds = some t) :
    ∃ a o, x = .ref a ∧ DGet H a (.ref b) o ∧ ((t = none ∧ o = none) ∨ ∃ d w, t = some d ∧ o = some w ∧ Rp K F w d) := by
  unfold getT at e
  split at e
  · rename_i ps ks
    split at e
    · rename_i w
      rw [Bool.and_eq_true] at w
      cases e
      obtain ⟨kk, e1, e2⟩ := keysL hl w.1
      subst e1 e2
      obtain ⟨a, kvs, ea, ha, rk⟩ := Rq.dit s hx
      refine ⟨a, valV kvs kk, ea, .inr ⟨kvs, kk, b, ha, rfl, hb, rfl⟩, ?_⟩
      rcases rk.look kk with ⟨h1, h2⟩ | ⟨d, w', h1, h2, h3⟩
      · exact .inl ⟨h1, h2⟩
      · exact .inr ⟨d, w', h1, h2, h3⟩
    · cases e
  · cases e
theorem getT_len {u : D} {ds : List D} {t : Option D} (e : getT u ds = some t) : ds.length ≤ sizeLine := by
  unfold getT at e
  split at e
  · split at e
    · rename_i w
      rw [Bool.and_eq_true, decide_eq_true_eq] at w
      rw [← szl]
      exact w.2
    · cases e
  · cases e
theorem rdc_of {X : Cx} {B : Bs} {φ : Env → Res TV} (hb : ∀ r t r', φ r = .ok t r' → ∃ b, t = .d (.bool b)) {σ : L2.St} {H : Hp} {Q : Bool → Hp → Prop} (q : RdC X.K B (tst φ).2 σ H Q) : RdE X.K B φ σ H (fun x H' => ∃ d, x = .bl d ∧ Q d H') := by
  obtain ⟨F0, r, s, t, r', e, k⟩ := q
  simp only [tst] at e
  obtain ⟨x, r1, e1, e⟩ := bind_inv e
  obtain ⟨b, rfl⟩ := hb _ _ _ e1
  cases e
  refine ⟨F0, r, s, _, _, e1, fun z F' H' p tv => ?_⟩
  have tv' : Rp X.K F' z (.bool t) := tv
  cases tv'
  exact ⟨t, rfl, k F' H' p⟩
theorem bl_rp (n : Bool) (o : Option V) (t : Option D) (h : (t = none ∧ o = none) ∨ ∃ d w, t = some d ∧ o = some w ∧ Rp K F w d) : o.isSome = t.isSome ∧ (!o.isSome) = t.isNone := by
  rcases h with ⟨rfl, rfl⟩ | ⟨d, w, rfl, rfl, _⟩ <;> exact ⟨rfl, rfl⟩
end
section
variable {X : Cx} {B : Bs} {d k ed ev : Expr} {es : List Expr} {apos cpos pos tpos : Pos} {ctx : Nat} {f g h : Env → Res TV} {l : Env → Res (List D)}
theorem rd_dix (hu : X.A.units + 1 < cLine) (hs : NoSl k) (hd : PE X d (RdE X.K B f)) (hk : PE X k (RdE X.K B g)) :
    PE X (.Subscript d k pos) (RdE X.K B fun r => (f r).bind fun x r1 => (g r1).bind fun y r2 => match deref r2 x, deref r2 y with
      | some u, some v => .of ((getD1 u v).bind fun t => t.map .d) r2
      | _, _ => .stuck) := by
  refine PE.imp (pe_dget hu hd hk hs) fun σ H Q ⟨F, r, s, t, r', e, c⟩ => ?_
  obtain ⟨x, r1, e1, e⟩ := bind_inv e
  obtain ⟨y, r2, e2, e⟩ := bind_inv e
  refine ⟨F, r, s, x, r1, e1, fun xv F1 H1 p1 t1 => ⟨F1, r1, p1.st, y, r2, e2, fun yv F2 H2 p2 t2 => ?_⟩⟩
  have t1' := t1.keep p2 (p1.ne s)
  split at e
  · rename_i u v z1 z2
    obtain ⟨e3, rfl⟩ := of_inv e
    rw [Option.bind_eq_some_iff] at e3
    obtain ⟨tt, e3, e4⟩ := e3
    rw [Option.map_eq_some_iff] at e4
    obtain ⟨dd, e4, rfl⟩ := e4
    have hx := deref_rq p2.st t1' z1
    obtain ⟨a, ea⟩ := dget_ref p2.st.sub hx e3
    obtain ⟨ov, g1, g2⟩ := dget_of p2.st.sub hx ea (deref_rq p2.st t2 z2) e3
    rcases g2 with ⟨q1, _⟩ | ⟨d2, w, q1, q2, hw⟩
    · rw [q1] at e4
      cases e4
    · rw [q1] at e4
      cases e4
      subst q2
      exact ⟨a, w, ea, g1, c _ F2 H2 (p1.trans p2) hw⟩
  · cases e
theorem rd_din_imp : ∀ σ H Q, RdE X.K B (fun r => (g r).bind fun y r1 => (f r1).bind fun x r2 => match deref r2 x, deref r2 y with
      | some u, some v => .of ((getD1 u v).map fun t => .d (.bool (if false = true then t.isNone else t.isSome))) r2
      | _, _ => .stuck) σ H Q → tDIn (RdE X.K B g) (RdE X.K B f) σ H Q := by
  intro σ H Q ⟨F, r, s, t, r', e, c⟩
  obtain ⟨y, r1, e1, e⟩ := bind_inv e
  obtain ⟨x, r2, e2, e⟩ := bind_inv e
  refine ⟨F, r, s, y, r1, e1, fun yv F1 H1 p1 t1 => ⟨F1, r1, p1.st, x, r2, e2, fun xv F2 H2 p2 t2 => ?_⟩⟩
  have t1' := t1.keep p2 (p1.ne s)
  split at e
  · rename_i u v z1 z2
    obtain ⟨e3, rfl⟩ := of_inv e
    rw [Option.map_eq_some_iff] at e3
    obtain ⟨tt, e3, rfl⟩ := e3
    have hx := deref_rq p2.st t2 z1
    obtain ⟨a, ea⟩ := dget_ref p2.st.sub hx e3
    obtain ⟨ov, g1, g2⟩ := dget_of p2.st.sub hx ea (deref_rq p2.st t1' z2) e3
    have hb := bl_rp (K := X.K) false ov tt g2
    refine ⟨a, ov, ea, g1, c _ F2 H2 (p1.trans p2) ?_⟩
    rw [hb.1]
    exact .bl _
  · cases e
theorem rd_din_b : ∀ (r : Ev.Env) (t : TV) (r' : Ev.Env), ((fun r => (g r).bind fun y r1 => (f r1).bind fun x r2 => match deref r2 x, deref r2 y with
      | some u, some v => .of ((getD1 u v).map fun t => .d (.bool (if false = true then t.isNone else t.isSome))) r2
      | _, _ => .stuck) : Ev.Env → Res TV) r = .ok t r' → ∃ b, t = .d (.bool b) := by
  intro r t r' e
  dsimp only at e
  obtain ⟨y, r1, _, e⟩ := bind_inv e
  obtain ⟨x, r2, _, e⟩ := bind_inv e
  split at e
  · obtain ⟨e3, _⟩ := of_inv e
    rw [Option.map_eq_some_iff] at e3
    obtain ⟨tt, _, rfl⟩ := e3
    exact ⟨_, rfl⟩
  · cases e
theorem rd_din (hu : X.A.units + 1 < cLine) (hm : behindInMarks .In d = false) (hk : PE X k (RdE X.K B g)) (hd : PE X d (RdE X.K B f)) :
    PE X (.Compare k [.In] [d] pos) (RdE X.K B (fun r => (g r).bind fun y r1 => (f r1).bind fun x r2 => match deref r2 x, deref r2 y with
      | some u, some v => .of ((getD1 u v).map fun t => .d (.bool (if false = true then t.isNone else t.isSome))) r2
      | _, _ => .stuck)) ∧ PT X (.Compare k [.In] [d] pos) (RdC X.K B (tst (fun r => (g r).bind fun y r1 => (f r1).bind fun x r2 => match deref r2 x, deref r2 y with
      | some u, some v => .of ((getD1 u v).map fun t => .d (.bool (if false = true then t.isNone else t.isSome))) r2
      | _, _ => .stuck)).2) :=
  ⟨PE.imp (pe_cmp (pc_din hu hk hd) hm) rd_din_imp, PT.imp (pt_cmp (pc_din hu hk hd) hm) fun σ H Q q => rd_din_imp σ H _ (rdc_of rd_din_b q)⟩
theorem rd_dnin_imp : ∀ σ H Q, RdE X.K B (fun r => (g r).bind fun y r1 => (f r1).bind fun x r2 => match deref r2 x, deref r2 y with
      | some u, some v => .of ((getD1 u v).map fun t => .d (.bool (if true = true then t.isNone else t.isSome))) r2
      | _, _ => .stuck) σ H Q → tDNotIn (RdE X.K B g) (RdE X.K B f) σ H Q := by
  intro σ H Q ⟨F, r, s, t, r', e, c⟩
  obtain ⟨y, r1, e1, e⟩ := bind_inv e
  obtain ⟨x, r2, e2, e⟩ := bind_inv e
  refine ⟨F, r, s, y, r1, e1, fun yv F1 H1 p1 t1 => ⟨F1, r1, p1.st, x, r2, e2, fun xv F2 H2 p2 t2 => ?_⟩⟩
  have t1' := t1.keep p2 (p1.ne s)
  split at e
  · rename_i u v z1 z2
    obtain ⟨e3, rfl⟩ := of_inv e
    rw [Option.map_eq_some_iff] at e3
    obtain ⟨tt, e3, rfl⟩ := e3
    have hx := deref_rq p2.st t2 z1
    obtain ⟨a, ea⟩ := dget_ref p2.st.sub hx e3
    obtain ⟨ov, g1, g2⟩ := dget_of p2.st.sub hx ea (deref_rq p2.st t1' z2) e3
    have hb := bl_rp (K := X.K) true ov tt g2
    refine ⟨a, ov, ea, g1, c _ F2 H2 (p1.trans p2) ?_⟩
    rw [hb.2]
    exact .bl _
  · cases e
theorem rd_dnin_b : ∀ (r : Ev.Env) (t : TV) (r' : Ev.Env), ((fun r => (g r).bind fun y r1 => (f r1).bind fun x r2 => match deref r2 x, deref r2 y with
      | some u, some v => .of ((getD1 u v).map fun t => .d (.bool (if true = true then t.isNone else t.isSome))) r2
      | _, _ => .stuck) : Ev.Env → Res TV) r = .ok t r' → ∃ b, t = .d (.bool b) := by
  intro r t r' e
  dsimp only at e
  obtain ⟨y, r1, _, e⟩ := bind_inv e
  obtain ⟨x, r2, _, e⟩ := bind_inv e
  split at e
  · obtain ⟨e3, _⟩ := of_inv e
    rw [Option.map_eq_some_iff] at e3
    obtain ⟨tt, _, rfl⟩ := e3
    exact ⟨_, rfl⟩
  · cases e
theorem rd_dnin (hu : X.A.units + 1 < cLine) (hm : behindInMarks .NotIn d = false) (hk : PE X k (RdE X.K B g)) (hd : PE X d (RdE X.K B f)) :
    PE X (.Compare k [.NotIn] [d] pos) (RdE X.K B (fun r => (g r).bind fun y r1 => (f r1).bind fun x r2 => match deref r2 x, deref r2 y with
      | some u, some v => .of ((getD1 u v).map fun t => .d (.bool (if true = true then t.isNone else t.isSome))) r2
      | _, _ => .stuck)) ∧ PT X (.Compare k [.NotIn] [d] pos) (RdC X.K B (tst (fun r => (g r).bind fun y r1 => (f r1).bind fun x r2 => match deref r2 x, deref r2 y with
      | some u, some v => .of ((getD1 u v).map fun t => .d (.bool (if true = true then t.isNone else t.isSome))) r2
      | _, _ => .stuck)).2) :=
  ⟨PE.imp (pe_cmp (pc_dnotin hu hk hd) hm) rd_dnin_imp, PT.imp (pt_cmp (pc_dnotin hu hk hd) hm) fun σ H Q q => rd_dnin_imp σ H _ (rdc_of rd_dnin_b q)⟩
theorem rd_tin_imp : ∀ σ H Q, RdE X.K B (fun r => (l r).bind fun ds r1 => (f r1).bind fun x r2 => match deref r2 x with
      | some u => .of ((getT u ds).map fun t => .d (.bool (if false = true then t.isNone else t.isSome))) r2
      | none => .stuck) σ H Q → tDIn (tTup (RdA X.K B l)) (RdE X.K B f) σ H Q := by
  intro σ H Q ⟨F, r, s, t, r', e, c⟩
  obtain ⟨ds, r1, e1, e⟩ := bind_inv e
  obtain ⟨x, r2, e2, e⟩ := bind_inv e
  split at e
  · rename_i u z1
    obtain ⟨e3, rfl⟩ := of_inv e
    rw [Option.map_eq_some_iff] at e3
    obtain ⟨tt, e3, rfl⟩ := e3
    refine ⟨F, r, s, ds, r1, e1, fun xs F1 H1 p1 rl => ⟨by rw [rl.length]; exact getT_len e3, fun b hb => ?_⟩⟩
    have lb := laid (o := .tup xs) p1.st hb
    obtain ⟨fb, nb⟩ := new_away (o := .tup xs) p1.st hb
    refine ⟨F1, r1, lb.st, x, r2, e2, fun xv F2 H2 p2 t2 => ?_⟩
    have hb2 := p2.frame.at_ _ _ upd_same nb pl_tup
    obtain ⟨a, ov, ea, g1, g2⟩ := tget_of p2.st.sub (deref_rq p2.st t2 z1) (rl.mono p2.mono) hb2 e3
    have hbl := bl_rp (K := X.K) false ov tt g2
    refine ⟨a, ov, ea, g1, c _ F2 H2 ((p1.trans lb).trans p2) ?_⟩
    rw [hbl.1]
    exact .bl _
  · cases e
theorem rd_tin_b : ∀ (r : Ev.Env) (t : TV) (r' : Ev.Env), ((fun r => (l r).bind fun ds r1 => (f r1).bind fun x r2 => match deref r2 x with
      | some u => .of ((getT u ds).map fun t => .d (.bool (if false = true then t.isNone else t.isSome))) r2
      | none => .stuck) : Ev.Env → Res TV) r = .ok t r' → ∃ b, t = .d (.bool b) := by
  intro r t r' e
  dsimp only at e
  obtain ⟨y, r1, _, e⟩ := bind_inv e
  obtain ⟨x, r2, _, e⟩ := bind_inv e
  split at e
  · obtain ⟨e3, _⟩ := of_inv e
    rw [Option.map_eq_some_iff] at e3
    obtain ⟨tt, _, rfl⟩ := e3
    exact ⟨_, rfl⟩
  · cases e
theorem rd_tin (hu : X.A.units + 1 < cLine) (hm : behindInMarks .In d = false) (hk : PA X es (RdA X.K B l)) (hd : PE X d (RdE X.K B f)) :
    PE X (.Compare (.Tuple es ctx tpos) [.In] [d] pos) (RdE X.K B (fun r => (l r).bind fun ds r1 => (f r1).bind fun x r2 => match deref r2 x with
      | some u => .of ((getT u ds).map fun t => .d (.bool (if false = true then t.isNone else t.isSome))) r2
      | none => .stuck)) ∧ PT X (.Compare (.Tuple es ctx tpos) [.In] [d] pos) (RdC X.K B (tst (fun r => (l r).bind fun ds r1 => (f r1).bind fun x r2 => match deref r2 x with
      | some u => .of ((getT u ds).map fun t => .d (.bool (if false = true then t.isNone else t.isSome))) r2
      | none => .stuck)).2) :=
  ⟨PE.imp (pe_cmp (pc_din hu (pe_tup hk) hd) hm) rd_tin_imp, PT.imp (pt_cmp (pc_din hu (pe_tup hk) hd) hm) fun σ H Q q => rd_tin_imp σ H _ (rdc_of rd_tin_b q)⟩
theorem rd_tnin_imp : ∀ σ H Q, RdE X.K B (fun r => (l r).bind fun ds r1 => (f r1).bind fun x r2 => match deref r2 x with
      | some u => .of ((getT u ds).map fun t => .d (.bool (if true = true then t.isNone else t.isSome))) r2
      | none => .stuck) σ H Q → tDNotIn (tTup (RdA X.K B l)) (RdE X.K B f) σ H Q := by
  intro σ H Q ⟨F, r, s, t, r', e, c⟩
  obtain ⟨ds, r1, e1, e⟩ := bind_inv e
  obtain ⟨x, r2, e2, e⟩ := bind_inv e
  split at e
  · rename_i u z1
    obtain ⟨e3, rfl⟩ := of_inv e
    rw [Option.map_eq_some_iff] at e3
    obtain ⟨tt, e3, rfl⟩ := e3
    refine ⟨F, r, s, ds, r1, e1, fun xs F1 H1 p1 rl => ⟨by rw [rl.length]; exact getT_len e3, fun b hb => ?_⟩⟩
    have lb := laid (o := .tup xs) p1.st hb
    obtain ⟨fb, nb⟩ := new_away (o := .tup xs) p1.st hb
    refine ⟨F1, r1, lb.st, x, r2, e2, fun xv F2 H2 p2 t2 => ?_⟩
    have hb2 := p2.frame.at_ _ _ upd_same nb pl_tup
    obtain ⟨a, ov, ea, g1, g2⟩ := tget_of p2.st.sub (deref_rq p2.st t2 z1) (rl.mono p2.mono) hb2 e3
    have hbl := bl_rp (K := X.K) true ov tt g2
    refine ⟨a, ov, ea, g1, c _ F2 H2 ((p1.trans lb).trans p2) ?_⟩
    rw [hbl.2]
    exact .bl _
  · cases e
theorem rd_tnin_b : ∀ (r : Ev.Env) (t : TV) (r' : Ev.Env), ((fun r => (l r).bind fun ds r1 => (f r1).bind fun x r2 => match deref r2 x with
      | some u => .of ((getT u ds).map fun t => .d (.bool (if true = true then t.isNone else t.isSome))) r2
      | none => .stuck) : Ev.Env → Res TV) r = .ok t r' → ∃ b, t = .d (.bool b) := by
  intro r t r' e
  dsimp only at e
  obtain ⟨y, r1, _, e⟩ := bind_inv e
  obtain ⟨x, r2, _, e⟩ := bind_inv e
  split at e
  · obtain ⟨e3, _⟩ := of_inv e
    rw [Option.map_eq_some_iff] at e3
    obtain ⟨tt, _, rfl⟩ := e3
    exact ⟨_, rfl⟩
  · cases e
theorem rd_tnin (hu : X.A.units + 1 < cLine) (hm : behindInMarks .NotIn d = false) (hk : PA X es (RdA X.K B l)) (hd : PE X d (RdE X.K B f)) :
    PE X (.Compare (.Tuple es ctx tpos) [.NotIn] [d] pos) (RdE X.K B (fun r => (l r).bind fun ds r1 => (f r1).bind fun x r2 => match deref r2 x with
      | some u => .of ((getT u ds).map fun t => .d (.bool (if true = true then t.isNone else t.isSome))) r2
      | none => .stuck)) ∧ PT X (.Compare (.Tuple es ctx tpos) [.NotIn] [d] pos) (RdC X.K B (tst (fun r => (l r).bind fun ds r1 => (f r1).bind fun x r2 => match deref r2 x with
      | some u => .of ((getT u ds).map fun t => .d (.bool (if true = true then t.isNone else t.isSome))) r2
      | none => .stuck)).2) :=
  ⟨PE.imp (pe_cmp (pc_dnotin hu (pe_tup hk) hd) hm) rd_tnin_imp, PT.imp (pt_cmp (pc_dnotin hu (pe_tup hk) hd) hm) fun σ H Q q => rd_tnin_imp σ H _ (rdc_of rd_tnin_b q)⟩
theorem rd_tix (hu : X.A.units + 1 < cLine) (hs : NoSl (.Tuple es ctx tpos)) (hd : PE X d (RdE X.K B f)) (hk : PA X es (RdA X.K B l)) :
    PE X (.Subscript d (.Tuple es ctx tpos) pos) (RdE X.K B fun r => (f r).bind fun x r1 => (l r1).bind fun ds r2 => match deref r2 x with
      | some u => .of ((getT u ds).bind fun t => t.map .d) r2
      | none => .stuck) := by
  refine PE.imp (pe_dget hu hd (pe_tup hk) hs) fun σ H Q ⟨F, r, s, t, r', e, c⟩ => ?_
  obtain ⟨x, r1, e1, e⟩ := bind_inv e
  obtain ⟨ds, r2, e2, e⟩ := bind_inv e
  split at e
  · rename_i u z1
    obtain ⟨e3, rfl⟩ := of_inv e
    rw [Option.bind_eq_some_iff] at e3
    obtain ⟨tt, e3, e4⟩ := e3
    rw [Option.map_eq_some_iff] at e4
    obtain ⟨dd, e4, rfl⟩ := e4
    refine ⟨F, r, s, x, r1, e1, fun xv F1 H1 p1 t1 => ⟨F1, r1, p1.st, ds, r2, e2, fun xs F2 H2 p2 rl => ⟨by rw [rl.length]; exact getT_len e3, fun b hb => ?_⟩⟩⟩
    have t1' := t1.keep p2 (p1.ne s)
    have lb := laid (o := .tup xs) p2.st hb
    have t1'' := t1'.keep lb fun a q => p1.ne s a (p2.own a q)
    obtain ⟨a, ov, ea, g1, g2⟩ := tget_of lb.st.sub (deref_rq lb.st t1'' z1) (rl.mono lb.mono) upd_same e3
    rcases g2 with ⟨q1, _⟩ | ⟨d2, w, q1, q2, hw⟩
    · rw [q1] at e4
      cases e4
    · rw [q1] at e4
      cases e4
      subst q2
      exact ⟨a, w, ea, g1, c _ F2 _ ((p1.trans p2).trans lb) hw⟩
  · cases e
theorem rd_tg2 (hu : X.A.units + 1 < cLine) (hb : baseB d = true) (hp2 : plainE ed = true) (hl : (apos.endLine == cpos.line) = true) (ho : PE X d (RdE X.K B f)) (hk : PA X es (RdA X.K B l)) (hd : PE X ed (RdE X.K B h)) :
    PE X (.Call (.Attribute d "get" apos) [.Tuple es ctx tpos, ed] [] cpos) (RdE X.K B fun r => (f r).bind fun x r1 => (dictR r1 x).bind fun _ r1 => (l r1).bind fun ds r2 => (h r2).bind fun z r3 => (solidR r3 z).bind fun w r4 => match deref r4 x with
      | some u => .of ((getT u ds).map fun t => .d (t.getD w)) r4
      | none => .stuck) := by
  refine PE.imp (pe_dget2 hu ho (pe_tup hk) hd (m2_ok hb rfl hp2 hl)) fun σ H Q ⟨F, r, s, t, r', e, c⟩ => ?_
  obtain ⟨x, r1, e1, ea⟩ := bind_inv e
  obtain ⟨_, r1', e0, eb⟩ := bind_inv ea
  obtain ⟨u0, z0, w0, rfl⟩ := dictR_inv e0
  clear e ea
  obtain ⟨ds, r2, e2, ec⟩ := bind_inv eb
  obtain ⟨z, r3, e3, ed'⟩ := bind_inv ec
  obtain ⟨w, r4, e4, e⟩ := bind_inv ed'
  split at e
  · rename_i u z1
    obtain ⟨e5, rfl⟩ := of_inv e
    rw [Option.map_eq_some_iff] at e5
    obtain ⟨tt, e5, rfl⟩ := e5
    refine ⟨F, r, s, x, r1, e1, fun xv F1 H1 p1 t1 => ?_⟩
    obtain ⟨a, ea, da⟩ := isD_of p1.st.sub (deref_rq p1.st t1 z0) w0
    refine ⟨a, ea, da, F1, r1, p1.st, ds, r2, e2, fun xs F2 H2 p2 rl => ⟨by rw [rl.length]; exact getT_len e5, fun b hb' => ?_⟩⟩
    have lb := laid (o := .tup xs) p2.st hb'
    obtain ⟨fb, nb⟩ := new_away (o := .tup xs) p2.st hb'
    refine ⟨F2, r2, lb.st, z, r3, e3, fun zv F3 H3 p3 t3 => ?_⟩
    obtain ⟨F4, p4, h4, _⟩ := solid_post lb.st p3 t3 (solidR_ok e4)
    have hb4 := p4.frame.at_ _ _ upd_same nb pl_tup
    have t1' := t1.keep p2 (p1.ne s)
    have t1'' := (t1'.keep lb fun a q => p1.ne s a (p2.own a q)).keep p4 fun a q => p1.ne s a (p2.own a (lb.own a q))
    obtain ⟨a', ov, ea', g1, g2⟩ := tget_of p4.st.sub (deref_rq p4.st t1'' z1) ((rl.mono lb.mono).mono p4.mono) hb4 e5
    rw [ea] at ea'
    cases ea'
    refine ⟨ov, g1, c _ F4 H3 (((p1.trans p2).trans lb).trans p4) ?_⟩
    rcases g2 with ⟨rfl, rfl⟩ | ⟨dd, w', rfl, rfl, hw⟩
    · exact h4
    · exact hw
  · cases e
theorem rd_tg1 (hu : X.A.units + 1 < cLine) (hb : baseB d = true) (hl : (apos.endLine == cpos.line) = true) (ho : PE X d (RdE X.K B f)) (hk : PA X es (RdA X.K B l)) :
    PE X (.Call (.Attribute d "get" apos) [.Tuple es ctx tpos] [] cpos) (RdE X.K B fun r => (f r).bind fun x r1 => (dictR r1 x).bind fun _ r1 => (l r1).bind fun ds r2 => match deref r2 x with
      | some u => .of ((getT u ds).map fun t => .d (t.getD .none)) r2
      | none => .stuck) := by
  refine PE.imp (pe_dget1 hu ho (pe_tup hk) (m1_ok hb rfl hl)) fun σ H Q ⟨F, r, s, t, r', e, c⟩ => ?_
  obtain ⟨x, r1, e1, ea⟩ := bind_inv e
  obtain ⟨_, r1', e0, eb⟩ := bind_inv ea
  obtain ⟨u0, z0, w0, rfl⟩ := dictR_inv e0
  clear e ea
  obtain ⟨ds, r2, e2, e⟩ := bind_inv eb
  split at e
  · rename_i u z1
    obtain ⟨e5, rfl⟩ := of_inv e
    rw [Option.map_eq_some_iff] at e5
    obtain ⟨tt, e5, rfl⟩ := e5
    refine ⟨F, r, s, x, r1, e1, fun xv F1 H1 p1 t1 => ?_⟩
    obtain ⟨a, ea, da⟩ := isD_of p1.st.sub (deref_rq p1.st t1 z0) w0
    refine ⟨a, ea, da, F1, r1, p1.st, ds, r2, e2, fun xs F2 H2 p2 rl => ⟨by rw [rl.length]; exact getT_len e5, fun b hb' => ?_⟩⟩
    have lb := laid (o := .tup xs) p2.st hb'
    have t1' := t1.keep p2 (p1.ne s)
    have t1'' := t1'.keep lb fun a q => p1.ne s a (p2.own a q)
    obtain ⟨a', ov, ea', g1, g2⟩ := tget_of lb.st.sub (deref_rq lb.st t1'' z1) (rl.mono lb.mono) upd_same e5
    rw [ea] at ea'
    cases ea'
    refine ⟨ov, g1, c _ F2 _ ((p1.trans p2).trans lb) ?_⟩
    rcases g2 with ⟨rfl, rfl⟩ | ⟨dd, w', rfl, rfl, hw⟩
    · exact .non
    · exact hw
  · cases e
end
end Ev

end
section
set_option maxRecDepth 100000
set_option linter.all false
set_option maxHeartbeats 4000000
/-! {**d, k: v} with a tuple that stands already; {**a, **b} with tuple keys. -/
namespace Ev
open PySem PySem.Spec PyProof.Rows L2
section
variable {prog : Program} {w : World} {A : Around} {E : Value → Shared → Prop} {s : Shared}
theorem wpAny_star2 {md me : Sem Value} {Q : Value → Shared → Prop}
    (h : wpAny (model prog w) A md (fun m s1 => ∀ E', wpAny (model prog w) A (mergeMapping s.heap.objs.size m false) (fun _ s2 =>
        wpAny (model prog w) A me (fun m2 s3 => ∀ E', wpAny (model prog w) A (mergeMapping s.heap.objs.size m2 false) (fun _ s4 => Q (.ref s.heap.objs.size) s4) E' s3) E s2) E' s1) E
      { s with heap := s.heap.push { cls := .type "dict", data := .dict #[] } }) :
    wpAny (model prog w) A (dictDisplay [(none, md), (none, me)]) Q E s := by
  unfold dictDisplay
  dsimp only
  simp only [List.forIn_cons, List.forIn_nil]
  refine wpAny_bind ?_
  refine wpAny_bind ?_
  show wpAny _ _ (bind (if ([] : List (Sem Value × Sem Value)).isEmpty = true then pure none else _) _) _ _ _
  rw [if_pos (c := ([] : List (Sem Value × Sem Value)).isEmpty = true) rfl]
  refine wpAny_bind (wpAny_pure ?_)
  show wpAny _ _ (bind (alloc _) _) _ _ _
  refine wpAny_bind (wpAny_alloc ?_)
  refine wpAny_bind (wpAny_holding (wpAny_mono h (fun m s1 hm => ?_) fun _ _ e => e))
  refine wpAny_bind (wpAny_onRaise (wpAny_tryCatch (wpAny_onRaise (wpAny_holding (wpAny_mono (hm _) (fun _ s2 h2 => ?_) fun _ _ e => e)))))
  refine wpAny_pure ?_
  dsimp only
  refine wpAny_bind ?_
  show wpAny _ _ (bind (if ([] : List (Sem Value × Sem Value)).isEmpty = true then pure (some _) else _) _) _ _ _
  rw [if_pos (c := ([] : List (Sem Value × Sem Value)).isEmpty = true) rfl]
  refine wpAny_bind (wpAny_pure ?_)
  show wpAny _ _ (bind (pure _) _) _ _ _
  refine wpAny_bind (wpAny_pure ?_)
  refine wpAny_bind (wpAny_holding (wpAny_mono h2 (fun m2 s3 hm2 => ?_) fun _ _ e => e))
  refine wpAny_bind (wpAny_onRaise (wpAny_tryCatch (wpAny_onRaise (wpAny_holding (wpAny_mono (hm2 _) (fun _ s4 h4 => ?_) fun _ _ e => e)))))
  refine wpAny_pure ?_
  dsimp only
  refine wpAny_pure ?_
  dsimp only
  show wpAny _ _ (bind (if ([] : List (Sem Value × Sem Value)).isEmpty = true then pure (some _) else _) _) _ _ _
  rw [if_pos (c := ([] : List (Sem Value × Sem Value)).isEmpty = true) rfl]
  refine wpAny_bind (wpAny_pure ?_)
  exact wpAny_pure h4
end
def putAllK : List (List Key × V) → List (List Key × V) → List (List Key × V)
  | a, [] => a
  | a, (k, v) :: r => putAllK (putK a k v) r
theorem putAllK_len : ∀ (b a : List (List Key × V)), (putAllK a b).length ≤ a.length + b.length
  | [], a => Nat.le_refl _
  | (k, v) :: r, a => by
    have h1 := length_putK a k v
    have h2 := putAllK_len r (putK a k v)
    show (putAllK (putK a k v) r).length ≤ a.length + (r.length + 1)
    omega
theorem KT.putAll {H : Hp} {b : List (List Key × V)} {ys : List (List Key × Addr × Value)} (r2 : KT H b ys) : ∀ {a : List (List Key × V)} {xs : List (List Key × Addr × Value)}, KT H a xs → KT H (putAllK a b) (storedAllH xs ys) := by
  induction r2 with
  | nil => intro a xs h; exact h
  | @cons p q ps qs h t ih =>
    intro a xs r
    obtain ⟨k, v⟩ := p
    obtain ⟨k', c, u⟩ := q
    obtain ⟨e1, e2, e3⟩ := h
    have e1 : k = k' := e1
    subst e1
    exact ih (r.put k e2 e3)
theorem RpT.putAll {K : Fg} {F : Hp} {b : List (List Key × V)} {qs : List (D × D)} (r2 : RpT K F b qs) : ∀ {a : List (List Key × V)} {ps : List (D × D)}, RpT K F a ps → RpT K F (putAllK a b) (putAllT ps qs) := by
  induction b generalizing qs with
  | nil => cases r2; intro a ps h; exact h
  | cons p b ih =>
    cases r2 with
    | cons h t => intro a ps r; exact ih t (r.put _ h)
/-- {**a, **b} -/
def tStar2T (X : Cx) (td te : TE) : TE := fun σ H Q => ∀ p, H p = none → td σ (upd H p (.dT [])) fun x H1 => H1 p = some (.dT []) ∧ ∃ a kvs, x = .ref a ∧ a ≠ p ∧ Rd H1 a (.dT kvs) ∧ kvs.length < sizeLine ∧ (kvs.map fun kv => tupleKeyHash (mixKind X.prog X.w) kv.1).Nodup ∧
  te σ (upd H1 p (.dT kvs)) fun y H2 => H2 p = some (.dT kvs) ∧ ∃ b qvs, y = .ref b ∧ b ≠ p ∧ Rd H2 b (.dT qvs) ∧ kvs.length + qvs.length < sizeLine ∧ (qvs.map fun kv => tupleKeyHash (mixKind X.prog X.w) kv.1).Nodup ∧ Q (.ref p) (upd H2 p (.dT (putAllK kvs qvs)))
theorem pe_star2T {X : Cx} {pos : Pos} {ed ee : Expr} {td te : TE} (hu : X.A.units < cLine) (hd : PE X ed td) (hee : PE X ee te) : PE X (.Dict [none, none] [ed, ee] pos) (tStar2T X td te) := by
  refine ⟨fun pins s σ H Q I q => ?_⟩
  have hn := I.hok.fresh (Nat.le_refl s.heap.objs.size)
  have I1 := I.laid (a := s.heap.objs.size) (o := .dT []) (h' := s.heap.push { cls := .type "dict", data := .dict #[] }) (t' := s.toks) (fun _ _ q => Heap.get?_push_of_some _ q) (Nat.le_refl _) (dt_empty s.heap I.big)
  rw [arm_eval_Dict]
  refine wpAny_bind (wpAny_standAt ?_)
  refine wpAny_star2 ?_
  refine wpAny_bind (thn (hd.run pins _ σ _ _ I1 (q _ hn)) fun u s1 ⟨x, H1, I2, rx, q1⟩ => ?_)
  obtain ⟨ep, a, kvs, rfl, hap, ra, hl, hnd, q2⟩ := q1
  cases (show u = Value.ref a from rx)
  refine wpAny_bind (wpAny_standAt (wpAny_pure fun E' => ?_))
  obtain ⟨z, hdm, xs, rel, dd⟩ := dt_rd I2.hok ra
  obtain ⟨z0, hd0, xs0, r0, dd0⟩ := dt_of I2.hok ep
  cases r0
  have hvl : xs.length = kvs.length := (Paired.length rel).symm
  have hty : ∀ x ∈ xs, s1.TypeIs (.ref x.2.1) "tuple" := fun x hx => by
    obtain ⟨_, _, _, _, _, _, _, his, _⟩ := dd
    exact IsTupleKey.typeIs (his x hx)
  have hkeys := KT.keys rel
  have hnd' : (xs.map fun x => (tupleKind (mixKind X.prog X.w)).hash x.1).Nodup := by
    have e : (xs.map fun x => (tupleKind (mixKind X.prog X.w)).hash x.1) = (xs.map (·.1)).map (tupleKeyHash (mixKind X.prog X.w)) := by
      rw [List.map_map]
      rfl
    rw [e, ← hkeys, List.map_map]
    exact hnd
  have hno : (xs.map (·.1)).Nodup := Heap.DictOfH.nodup dd
  refine wpAny_mergeM_heap (knd := tupleKind (mixKind X.prog X.w)) hu (Ne.symm hap) hdm dd0 dd (.inr ⟨hty, hnd'⟩) (fun h' d1 d2 hs => ?_) (by rw [List.length_nil]; omega)
  rw [storedAllH_nil_of_nodup xs hno] at d1
  have he : ∃ q, h'.get? s.heap.objs.size = some q := let ⟨q, _, _, hq, _⟩ := d1; ⟨q, hq⟩
  have I3 := d_write (t' := s1.toks) I2 (by rw [ep]; exact True.intro) hs he (dt_new z hd0 (rel.keeps (upd_tup (qvs := kvs) ep)) d1)
  obtain ⟨p, hp⟩ : ∃ p, p = s.heap.objs.size := ⟨_, rfl⟩
  rw [← hp] at ep hap q2 I3 d1 hs hd0 ⊢
  have q3 := q2
  refine wpAny_bind (thn (hee.run pins _ σ _ _ I3 q3) fun u2 s2 ⟨y, H2, I4, ry, q4⟩ => ?_)
  obtain ⟨e2, b, qvs, rfl, hbp, rb, hl2, hnd2, q5⟩ := q4
  cases (show u2 = Value.ref b from ry)
  refine wpAny_bind (wpAny_standAt (wpAny_pure fun E2 => ?_))
  obtain ⟨z2, hdm2, ys, rel2, dd2⟩ := dt_rd I4.hok rb
  obtain ⟨z4, hd4, xs4, r4, dd4⟩ := dt_of I4.hok e2
  have hty2 : ∀ x ∈ ys, s2.TypeIs (.ref x.2.1) "tuple" := fun x hx => by
    obtain ⟨_, _, _, _, _, _, _, his, _⟩ := dd2
    exact IsTupleKey.typeIs (his x hx)
  have hkeys2 := KT.keys rel2
  have hnd2' : (ys.map fun x => (tupleKind (mixKind X.prog X.w)).hash x.1).Nodup := by
    have e : (ys.map fun x => (tupleKind (mixKind X.prog X.w)).hash x.1) = (ys.map (·.1)).map (tupleKeyHash (mixKind X.prog X.w)) := by
      rw [List.map_map]
      rfl
    rw [e, ← hkeys2, List.map_map]
    exact hnd2
  have l4 := Paired.length r4
  have l2 := Paired.length rel2
  refine wpAny_mergeM_heap (knd := tupleKind (mixKind X.prog X.w)) hu (Ne.symm hbp) hdm2 dd4 dd2 (.inr ⟨hty2, hnd2'⟩) (fun h3 d3 _ hs3 => ?_) (by omega)
  have he3 : ∃ q, h3.get? p = some q := let ⟨q, _, _, hq, _⟩ := d3; ⟨q, hq⟩
  have hput : KT H2 (putAllK kvs qvs) (storedAllH xs4 ys) := KT.putAll rel2 r4
  have hz3 : (putAllK kvs qvs).length ≤ sizeLine := by
    have := putAllK_len qvs kvs
    omega
  have I5 := d_write (t' := s2.toks) I4 (by rw [e2]; exact True.intro) hs3 he3 (dt_new hz3 hd4 (hput.keeps (upd_tup (qvs := putAllK kvs qvs) e2)) d3)
  exact ⟨.ref p, _, I5, rfl, q5⟩
section
variable {X : Cx} {B : Bs} {ed ek ev ee : Expr} {pos : Pos} {f g h : Env → Res TV}
theorem rd_sdv (hu : X.A.units < cLine) (hd : PE X ed (RdE X.K B f)) (hk : PE X ek (RdE X.K B g)) (hv : PE X ev (RdE X.K B h)) :
    PE X (.Dict [none, some ek] [ed, ev] pos) (RdE X.K B fun r => (f r).bind fun x r1 => match deref r1 x with
      | some u => (g r1).bind fun y r2 => (h r2).bind fun z r3 => (solidR r3 z).bind fun w r4 => match deref r4 y with
        | some kd => .of ((mrgV u kd w).map .f) r4
        | none => .stuck
      | none => .stuck) := by
  refine PE.imp (pe_starT hu hd hk hv) fun σ H Q ⟨F, r, st, t, r', e, c⟩ p hp => ?_
  obtain ⟨x, r1, e1, e⟩ := bind_inv e
  split at e
  · rename_i u hu'
    obtain ⟨y, r2, e2, e⟩ := bind_inv e
    obtain ⟨z, r3, e3, e⟩ := bind_inv e
    obtain ⟨w, r4, e4, e⟩ := bind_inv e
    split at e
    · rename_i kd hkd
      obtain ⟨e5, rfl⟩ := of_inv e
      rw [Option.map_eq_some_iff] at e5
      obtain ⟨rd, e5, rfl⟩ := e5
      unfold mrgV at e5
      split at e5
      · rename_i ks
        split at e5
        · rename_i hkt
          unfold mrgT at e5
          split at e5
          · rename_i ps _ _
            split at e5
            · rename_i hs hh
              split at e5
              · rename_i hc
                simp only [Bool.and_eq_true, decide_eq_true_eq] at hc
                obtain ⟨⟨⟨c1, c0⟩, c2⟩, c3⟩ := hc
                cases e5
                obtain ⟨fp, no⟩ := new_away (o := .dT []) st hp
                have lp := laid (o := .dT []) st hp
                refine ⟨F, r, lp.st, x, r1, e1, fun xv F1 H1 p1 t1 => ?_⟩
                obtain ⟨hp1, fp1, no1⟩ := away p1 upd_same fp no
                obtain ⟨a, kvs, ea, ha, rk, hap⟩ := deref_dit p1.st t1 hu' (p := p) (nT_ne upd_same (fun _ z => nomatch z)) fp1 no1
                have hl : kvs.length < sizeLine := by rw [rk.length, ← szl]; exact c3
                have hnd : (kvs.map fun kv => tupleKeyHash (mixKind X.prog X.w) kv.1).Nodup := by
                  rw [hashes_ok rk hh]
                  exact nodupI_ok c2
                refine ⟨hp1, a, kvs, ea, hap, ha, hl, hnd, fun q hq hqp => ?_⟩
                have P1 := post_upd (o := .dT kvs) (lp.trans p1) (nT_none hp) fp1 no1
                have hq' : upd H1 p (.dT kvs) q = none := by rw [upd_ne hqp]; exact hq
                obtain ⟨fq, nq⟩ := new_away (o := .dT []) P1.st hq'
                have lq := laid (o := .dT []) P1.st hq'
                refine ⟨F1, r1, lq.st, y, r2, e2, fun yv F2 H2 p2 t2 => ⟨F2, r2, p2.st, z, r3, e3, fun zv F3 H3 p3 t3 => ?_⟩⟩
                obtain ⟨F4, p4, h4, _⟩ := solid_post p2.st p3 t3 (solidR_ok e4)
                have p24 := p2.trans p4
                have hpq : upd (upd H1 p (.dT kvs)) q (.dT []) p = some (.dT kvs) := by rw [upd_ne (Ne.symm hqp), upd_same]
                obtain ⟨hp4, fp4, no4⟩ := away p24 hpq fp1 no1
                obtain ⟨hq4, fq4, nq4⟩ := away p24 upd_same fq nq
                have t2' := t2.keep p4 (p2.ne lq.st)
                obtain ⟨b, kk, eb, hb, ek'⟩ := Rq.ktup p4.st.sub (deref_rq p4.st t2' hkd) hkt
                subst ek'
                refine ⟨hp4, hq4, b, kk, eb, hb, ?_⟩
                have hHq : nT H q = none := Classical.byContradiction fun n => (lp.trans p1).dom q n (nT_none hq)
                have P4 := post_upd (o := .dT [(kk, zv)]) ((P1.trans lq).trans p24) hHq fq4 nq4
                have P5 := post_upd (o := .dT (putK kvs kk zv)) P4 (nT_none hp) fp4 no4
                exact c _ F4 _ P5 ⟨p, _, rfl, upd_same, fp4, .inr ⟨_, _, rfl, rfl, (rk.mono p24.mono).put kk h4⟩, nT_none hp⟩
              · cases e5
            · cases e5
          · cases e5
        · cases e5
      · cases e5
    · cases e
  · cases e
theorem rd_sd2 (hu : X.A.units < cLine) (hd : PE X ed (RdE X.K B f)) (he : PE X ee (RdE X.K B g)) :
    PE X (.Dict [none, none] [ed, ee] pos) (RdE X.K B fun r => (f r).bind fun x r1 => match deref r1 x with
      | some u => (g r1).bind fun y r2 => match deref r2 y with
        | some v => .of ((mrg2 u v).map .f) r2
        | none => .stuck
      | none => .stuck) := by
  refine PE.imp (pe_star2T hu hd he) fun σ H Q ⟨F, r, st, t, r', e, c⟩ p hp => ?_
  obtain ⟨x, r1, e1, e⟩ := bind_inv e
  split at e
  · rename_i u hu'
    obtain ⟨y, r2, e2, e⟩ := bind_inv e
    split at e
    · rename_i v hv'
      obtain ⟨e5, rfl⟩ := of_inv e
      rw [Option.map_eq_some_iff] at e5
      obtain ⟨rd, e5, rfl⟩ := e5
      unfold mrg2 at e5
      split at e5
      · rename_i ps qs
        split at e5
        · rename_i hs gs hh gg
          split at e5
          · rename_i hc
            simp only [Bool.and_eq_true, decide_eq_true_eq] at hc
            obtain ⟨⟨c1, c2⟩, c3⟩ := hc
            cases e5
            obtain ⟨fp, no⟩ := new_away (o := .dT []) st hp
            have lp := laid (o := .dT []) st hp
            refine ⟨F, r, lp.st, x, r1, e1, fun xv F1 H1 p1 t1 => ?_⟩
            obtain ⟨hp1, fp1, no1⟩ := away p1 upd_same fp no
            obtain ⟨a, kvs, ea, ha, rk, hap⟩ := deref_dit p1.st t1 hu' (p := p) (nT_ne upd_same (fun _ z => nomatch z)) fp1 no1
            have hl : kvs.length < sizeLine := by rw [rk.length, ← szl]; omega
            have hnd : (kvs.map fun kv => tupleKeyHash (mixKind X.prog X.w) kv.1).Nodup := by
              rw [hashes_ok rk hh]
              exact nodupI_ok c1
            refine ⟨hp1, a, kvs, ea, hap, ha, hl, hnd, ?_⟩
            have P1 := post_upd (o := .dT kvs) (lp.trans p1) (nT_none hp) fp1 no1
            refine ⟨F1, r1, P1.st, y, r2, e2, fun yv F2 H2 p2 t2 => ?_⟩
            obtain ⟨hp2, fp2, no2⟩ := away p2 upd_same fp1 no1
            obtain ⟨b, qvs, eb, hb, rq, hbp⟩ := deref_dit p2.st t2 hv' (p := p) (nT_ne upd_same (fun _ z => nomatch z)) fp2 no2
            have hl2 : kvs.length + qvs.length < sizeLine := by rw [rk.length, rq.length, ← szl]; exact c3
            have hnd2 : (qvs.map fun kv => tupleKeyHash (mixKind X.prog X.w) kv.1).Nodup := by
              rw [hashes_ok rq gg]
              exact nodupI_ok c2
            refine ⟨hp2, b, qvs, eb, hbp, hb, hl2, hnd2, ?_⟩
            have P5 := post_upd (o := .dT (putAllK kvs qvs)) (P1.trans p2) (nT_none hp) fp2 no2
            exact c _ F2 _ P5 ⟨p, _, rfl, upd_same, fp2, .inr ⟨_, _, rfl, rfl, RpT.putAll rq (rk.mono p2.mono)⟩, nT_none hp⟩
          · cases e5
        · cases e5
      · cases e5
    · cases e
  · cases e
end
end Ev

end
section
set_option maxRecDepth 100000
set_option linter.all false
set_option maxHeartbeats 4000000
/-! l.pop(), the value taken. -/
namespace Ev
open PySem PySem.Spec PyProof.Rows L2
section
variable {X : Cx} {B : Bs} {pos : Pos}
theorem getLast_of {K : Fg} {F : Hp} {ys : List V} {xs : List D} {y : D} (r : RpL K F ys xs) (h : xs.getLast? = some y) : ∃ v, ys[ys.length - 1]? = some v ∧ Rp K F v y ∧ RpL K F ys.dropLast xs.dropLast := by
  induction xs generalizing ys with
  | nil => exact nomatch h
  | cons x t ih =>
    cases r with
    | cons h1 h2 =>
      rename_i v us
      cases t with
      | nil =>
        cases h2
        have : x = y := by simpa using h
        subst this
        exact ⟨v, rfl, h1, .nil⟩
      | cons x2 t2 =>
        have h' : (x2 :: t2).getLast? = some y := by rw [← h]; simp [List.getLast?_cons]
        obtain ⟨w, e1, e2, e3⟩ := ih h2 h'
        cases us with
        | nil => exact nomatch h2
        | cons v2 us2 =>
          refine ⟨w, ?_, e2, ?_⟩
          · simpa using e1
          · show RpL K F (v :: (v2 :: us2).dropLast) (x :: (x2 :: t2).dropLast)
            exact .cons h1 e3
theorem rd_pop {i : Nat} {x : Str} {p2 ap cp : Pos} (hN : X.N[i]? = some x) (hv : Vis X.env.scope x) (hd : (x == ("__debug__" : Str)) = false) (hcd : (x == ("__classdict__" : Str)) = false) (hl : (ap.endLine == cp.line) = true) :
    PE X (.Call (.Attribute (.Name x p2) "pop" ap) [] [] cp) (RdE X.K B fun r => match mutAt r i with
      | some (.list xs) => match xs.getLast? with
        | some y => .ok (.d y) (setAt r i (.list xs.dropLast))
        | none => .stuck
      | _ => .stuck) := by
  refine PE.imp (pe_bm0 PySem.F.plainAttrs_list PySem.F.slot_list_pop PySem.F.type_list_pop mt_pop (pe_var hN hv hd hcd) rfl hl) fun σ H Q ⟨F, r, s, t, r', q, kk⟩ => ?_
  dsimp only at q
  split at q
  · rename_i xs z1
    split at q
    · rename_i y hy
      cases q
      obtain ⟨a, o, hσ, ho, hf, hob⟩ := s.obj i _ (mutAt_inv z1)
      obtain ⟨ys, rfl, rl⟩ := hob
      obtain ⟨w, e1, e2, e3⟩ := getLast_of rl hy
      have own_a : Own σ r a := ⟨i, _, mutAt_inv z1, hσ⟩
      have hl' : ObR X.K F (.lst ys.dropLast) (.list xs.dropLast) := ⟨_, rfl, e3⟩
      have st' := set_st (d := .list xs.dropLast) s (mutAt_inv z1) hσ hl'
      refine ⟨_, hσ, .inl ⟨rfl, ys, SqL.of ho⟩, a, ys, w, rfl, rfl, ho, e1, ?_⟩
      refine kk w F _ ⟨st', Sub.refl _, Kp.then Kp.refl own_a (by rw [ho]; first | exact pl_lst | exact pl_dK | exact pl_dT | exact pl_frz | exact pl_tup | exact pl_ob (by assumption)), fun b hb => ?_, fun b hb => .inl hb, fun b hb => own_setAt hb⟩ e2
      · exact dom_put (by first | exact pl_lst | exact pl_dK | exact pl_dT | exact pl_frz | exact pl_tup | exact pl_ob (by assumption) | exact pl_none) (fun _ h => h) b hb
    · cases q
  · cases q
end
end Ev

end
section
set_option linter.all false
set_option maxRecDepth 100000
set_option maxHeartbeats 4000000
/-! set(xs) of a list of ints, then sorted of that set. -/
namespace Ev
open PySem PySem.Spec PyProof.Rows L2
abbrev nset (w : World) : Obj := { cls := Value.type "set", dict := none, data := .set #[] 0 (.fresh 0 0 (!(w.params).followText "set-order")) }
/-- behind i items the set at a holds just these -/
def Held (w : World) (a : Addr) (ns : List Int) (i : Nat) (h : Heap) : Prop :=
  ∃ (S : Int → Bool) (c : Nat), SetR w h a S c ∧ (∀ k, S k = true ↔ k ∈ ns.take i) ∧ c ≤ i
theorem Held.at {w : World} {a : Addr} {ns : List Int} {i : Nat} {h h' : Heap} (x : Held w a ns i h) (k : ∀ o, h.get? a = some o → h'.get? a = some o) : Held w a ns i h' := by
  obtain ⟨S, c, r, m, z⟩ := x
  exact ⟨S, c, r.at k, m, z⟩
theorem Held.more {w : World} {a : Addr} {ns : List Int} {i : Nat} {h' : Heap} {S : Int → Bool} {c : Nat} (hi : i < ns.length) (m : ∀ k, S k = true ↔ k ∈ ns.take i) (z : c ≤ i)
    (r : SetR w h' a (fun j => S j || decide (j = ns.getD i 0)) (if S (ns.getD i 0) = true then c else c + 1)) : Held w a ns (i + 1) h' := by
  have e : ns.getD i 0 = ns[i] := by rw [List.getD_eq_getElem?_getD, List.getElem?_eq_getElem hi]; rfl
  refine ⟨_, _, r, fun k => ?_, by split <;> omega⟩
  rw [List.take_succ, List.getElem?_eq_getElem hi, List.mem_append, Bool.or_eq_true, m k, decide_eq_true_eq, e]
  simp
section
variable {P : Program} {w : World} {A : Around} {E : Value → Shared → Prop} {s : Shared}
theorem upd_ints {I : Addr} {fp wr : List Addr} {G : Array GenState → Array GenState → Prop} {n : Nat} {Pv : Nat → Value → Prop} {St : Nat → Shared → Prop} {R : Result → Shared → Prop}
    (W : WalksS P w A.in1 I fp wr G n Pv St) (a : Addr) (na : a ∉ fp) (ns : List Int) (hn : ns.length = n) (pv : ∀ i v, Pv i v → ∃ t, v = .int (ns.getD i 0) t) (lim : n + 1 < scanBound) :
    ∀ (m i : Nat) (s : Shared), i + m = n → St i s → Held w a ns i s.heap → (∀ s', Moved (a :: wr) G s s' → Held w a ns n s'.heap → R (.ok (.ret .none)) s') →
      codeAny (model P w) A (.builtin "set.update.loop" ⟨[.ref a, .ref I], []⟩) R s := by
  have nw : a ∉ wr := fun z => na (W.sub _ z)
  have wider : ∀ b ∈ wr, b ∈ a :: wr := fun _ z => List.mem_cons_of_mem _ z
  intro m
  induction m with
  | zero =>
    intro i s e st hd fin
    obtain rfl : i = n := e
    refine (codeAny_builtin F.entry_set_update_loop ?_)
    rw [(Around.under_plainId F.plain_set_update_loop _)]
    refine wpAny_bind (W.done s _ _ st fun s1 mv => ?_)
    exact wpAny_pure (fin s1 (mv.mono wider) (hd.at fun o q => mv.heap a o nw q))
  | succ m ih =>
    intro i s e st hd fin
    have lt : i < n := by omega
    refine (codeAny_builtin F.entry_set_update_loop ?_)
    rw [(Around.under_plainId F.plain_set_update_loop _)]
    refine wpAny_bind (W.item i s _ _ lt st fun v s1 pi st1 mv => ?_)
    obtain ⟨t, rfl⟩ := pv i v pi
    obtain ⟨S, c, r, mem, z⟩ := hd.at (h' := s1.heap) fun o q => mv.heap a o nw q
    refine wpAny_bind (wpAny_holding ?_)
    unfold setAdd
    refine wpAny_holding (wpAny_bind ((intKind P w).pyHash (intKind_is P w _ t) ?_))
    refine setR_add_hashed (s := { s1 with toks := s1.toks + 1 }) r (by omega) fun h2 sb r2 => ?_
    have off : ∀ b, b ≠ a → h2.get? b = s1.heap.get? b := fun b q => sb.2 b q
    refine wpAny_pure ⟨plainId_quiet F.plain_set_update_loop _, ih (i + 1) _ (by omega) (W.frame _ s1 _ _ st1 (Nat.le_succ _) fun b hb o q => ?_) (Held.more (by omega) mem z r2) fun s3 mv3 hd3 => ?_⟩
    · exact (off b (fun y => na (by rw [← y]; exact hb))).trans q
    · refine fin s3 (Moved.trans W.gtrans ((mv.mono wider).then_heap (Nat.le_succ _) fun b o hb q => ?_) mv3) hd3
      exact (off b (fun y => hb (by rw [y]; exact List.mem_cons_self))).trans q
theorem mkset_ints {l : Addr} {items : Array Value} {ns : List Int} {Q : Value → Shared → Prop} (hh : A.handled = none) (hl : s.heap.IsList l items) (hi : IntsAre items.toList ns) (hb : items.size + 1 < scanBound)
    (h : ∀ (h' : Heap) (tk : Nat), Held w s.heap.objs.size ns ns.length h' → (∀ b o, s.heap.get? b = some o → h'.get? b = some o) → Q (.ref s.heap.objs.size) { s with heap := h', toks := tk }) :
    wpAny (model P w) A (call (.type "set") [.ref l]) Q E s := by
  have len : ns.length = items.size := by
    have := hi.length
    rw [Array.length_toList] at this
    exact this.symm
  have ⟨c, tl, hmro⟩ := F.called_set.mro
  have hmade := F.called_set.made
  have hsub := F.called_set.sub
  refine wpAny_call (codeAny_of_tree (show wpAny _ _ (callAny (.type "set") _) _ _ _ from ?_))
  refine wpAny_pure ⟨Code.quiet_builtin _ (by decide +kernel), (codeAny_builtin F.entry_type_call ?_)⟩
  rw [(Around.under_plain (weight_type_call_type "set" [.ref l] []) rfl)]
  have h1 := F.called_set.notType
  have h2 := F.called_set.canCreate
  have hct := F.typeCall_set_1 (.ref l)
  repeat (any_goals (first | assumption | wp_step))
  refine codeAny_mono (code_set_led1 (.ref l) (E := E) (Q₁ := fun o s1 => o = .ref s.heap.objs.size ∧ s1 = { s with heap := s.heap.push (nset w) }) ⟨rfl, rfl⟩) fun res s1 g1 => ?_
  cases res with
  | error e => exact g1
  | ok fl =>
    cases fl with
    | ret obj =>
      obtain ⟨rfl, rfl⟩ := g1
      have atS : (s.heap.push (nset w)).get? s.heap.objs.size = some (nset w) := Heap.get?_push_size _ rfl
      have hT : Shared.TypeIs { s with heap := s.heap.push (nset w) } (.ref s.heap.objs.size) "set" := ⟨_, atS, rfl⟩
      have hli := F.called_set.init.lookup
      have hbi := F.called_set.init.bind (.ref s.heap.objs.size)
      repeat (any_goals (first | assumption | wp_step))
      refine codeAny_mono (codeAny_call_builtin (R := wants (fun x s2 => x = .none ∧ ∃ h' tk, s2 = { s with heap := h', toks := tk } ∧ Held w s.heap.objs.size ns ns.length h' ∧ ∀ b o, s.heap.get? b = some o → h'.get? b = some o) E)
        F.called_set.init.plain F.entry_set_init (check_set_init_1 hT ?_)) fun r2 s2 g2 => ?_
      · obtain ⟨⟨ocls, odict, odata, oslots⟩, hol, hcl, nl, hdl⟩ := hl
        simp only at hcl hdl
        subst hcl hdl
        have hol' : (s.heap.push (nset w)).get? l = some { cls := .type "list", dict := odict, data := .seq items nl, slots := oslots } := Heap.get?_push_of_some _ hol
        have hsls := F.sub_list_set
        have hslf := F.sub_list_frozenset
        have hne : (Value.type "list" == Value.type "dict") = false := by decide
        have hl1 : (s.heap.push (nset w)).IsList l items := ⟨_, hol', rfl, nl, rfl⟩
        unfold Builtin.«set.__init__» noKeywords Builtin.Frozenset.updateFrom
        generalize hPI : pyIter = PI
        wp_walk
        subst hPI
        refine wpAny_pyIter_list hl1 (wpAny_bind (wpAny_runValue ?_))
        have lt : l < s.heap.objs.size := Heap.lt_size hol
        have hh3 : A.in1.in1.in1.handled = none := by simp [hh]
        have sz : (s.heap.push (nset w)).objs.size = s.heap.objs.size + 1 := Heap.size_push ..
        have nI : l ≠ (s.heap.push (nset w)).objs.size := by
          rw [sz]
          exact Nat.ne_of_lt (Nat.lt_succ_of_lt lt)
        have nf : s.heap.objs.size ∉ [(s.heap.push (nset w)).objs.size, l] := by
          rw [sz]
          simp only [List.mem_cons, List.not_mem_nil, or_false, not_or]
          exact ⟨Nat.ne_of_lt (Nat.lt_succ_self _), Nat.ne_of_gt lt⟩
        have pv : ∀ (i : Nat) (v : Value), items[i]? = some v → ∃ t, v = .int (ns.getD i 0) t := fun i v q => IntsAre.int_at hi i v (by rw [Array.getElem?_toList]; exact q)
        have up : ∀ b o, s.heap.get? b = some o → ((s.heap.push (nset w)).push { cls := .type "list_iterator", data := .fields #[.ref l, .int 0 0] }).get? b = some o := fun b o q => Heap.get?_push_of_some _ (Heap.get?_push_of_some _ q)
        have below : ∀ b, (s.heap.push (nset w)).objs.size = b → s.heap.get? b = none := fun b q => by
          cases y : s.heap.get? b with
          | none => rfl
          | some o =>
            have z := Heap.lt_size y
            rw [← q, sz] at z
            exact absurd z (Nat.not_lt.mpr (Nat.le_succ _))
        refine upd_ints ((Walks.list hh3 _ l nI items).toS) s.heap.objs.size nf ns len pv hb items.size 0 _ (by omega) ⟨⟨_, Heap.get?_push_size _ rfl, rfl, rfl⟩, (hl1.push _)⟩ ?h0 ?hR
        case h0 => exact ⟨_, 0, (setR_fresh w).at fun o q => Heap.get?_push_of_some _ q, by simp, Nat.le_refl _⟩
        case hR =>
          intro s3 mv hd
          obtain ⟨h3, g3, d3, tk3, os3⟩ := s3
          have eg : g3 = s.gens := mv.gens
          have ed : d3 = s.drawn := mv.drawn
          have eo : os3 = s.os := mv.os
          subst eg ed eo
          refine wpAny_pure (show wpAny _ _ (ret Value.none) _ _ _ from wpAny_pure ⟨rfl, h3, tk3, rfl, len ▸ hd, fun b o q => ?_⟩)
          refine mv.heap b o (fun z => ?_) (up b o q)
          rcases List.mem_cons.mp z with z | z
          · rw [z] at q
            exact absurd (Heap.lt_size q) (Nat.lt_irrefl _)
          · rw [below b (List.mem_singleton.mp z).symm] at q
            cases q
      · cases r2 with
        | error e => exact g2
        | ok fl2 =>
          cases fl2 with
          | ret x =>
            obtain ⟨rfl, h', tk, rfl, hd, kp⟩ := g2
            repeat (any_goals (first | assumption | wp_step))
            exact h h' tk hd kp
          | _ => exact g2.elim
    | _ => exact g1.elim
end
theorem mem_insU (x k : Int) : ∀ l : List Int, k ∈ insU x l ↔ k = x ∨ k ∈ l
  | [] => by simp [insU]
  | y :: r => by
    unfold insU
    split
    · simp
    · split
      · rename_i e
        subst e
        simp
      · simp only [List.mem_cons, mem_insU x k r]
        constructor
        · rintro (h | h | h)
          · exact .inr (.inl h)
          · exact .inl h
          · exact .inr (.inr h)
        · rintro (h | h | h)
          · exact .inr (.inl h)
          · exact .inl h
          · exact .inr (.inr h)
theorem insU_up (x : Int) : ∀ l : List Int, l.Pairwise (· < ·) → (insU x l).Pairwise (· < ·)
  | [], _ => by simp [insU]
  | y :: r, h => by
    obtain ⟨h1, h2⟩ := List.pairwise_cons.mp h
    unfold insU
    split
    · rename_i q
      refine List.pairwise_cons.mpr ⟨fun z hz => ?_, h⟩
      rcases List.mem_cons.mp hz with e | hz
      · omega
      · have := h1 z hz
        omega
    · split
      · exact h
      · refine List.pairwise_cons.mpr ⟨fun z hz => ?_, insU_up x r h2⟩
        rcases (mem_insU x z r).mp hz with e | hz
        · omega
        · exact h1 z hz
theorem mem_sortU (k : Int) : ∀ l : List Int, k ∈ sortU l ↔ k ∈ l
  | [] => by simp [sortU]
  | x :: r => by
    unfold sortU
    rw [mem_insU, mem_sortU k r, List.mem_cons]
theorem sortU_up : ∀ l : List Int, (sortU l).Pairwise (· < ·)
  | [] => by simp [sortU]
  | x :: r => insU_up x _ (sortU_up r)
theorem up_same : ∀ {l m : List Int}, l.Pairwise (· < ·) → m.Pairwise (· < ·) → (∀ k, k ∈ l ↔ k ∈ m) → l = m
  | [], [], _, _, _ => rfl
  | [], y :: m, _, _, h => absurd ((h y).mpr List.mem_cons_self) (by simp)
  | x :: l, [], _, _, h => absurd ((h x).mp List.mem_cons_self) (by simp)
  | x :: l, y :: m, hl, hm, h => by
    obtain ⟨l1, l2⟩ := List.pairwise_cons.mp hl
    obtain ⟨m1, m2⟩ := List.pairwise_cons.mp hm
    have e : x = y := by
      rcases List.mem_cons.mp ((h x).mp List.mem_cons_self) with q | q
      · exact q
      · rcases List.mem_cons.mp ((h y).mpr List.mem_cons_self) with p | p
        · exact p.symm
        · have := m1 x q
          have := l1 y p
          omega
    subst e
    have t : l = m := up_same l2 m2 fun k => by
      constructor
      · intro q
        rcases List.mem_cons.mp ((h k).mp (List.mem_cons_of_mem _ q)) with p | p
        · have := l1 k q
          omega
        · exact p
      · intro q
        rcases List.mem_cons.mp ((h k).mpr (List.mem_cons_of_mem _ q)) with p | p
        · have := m1 k q
          omega
        · exact p
    rw [t]
theorem sortU_of_up {l : List Int} (h : l.Pairwise (· < ·)) : sortU l = l := up_same (sortU_up l) h fun k => mem_sortU k l
section
variable {X : Cx}
theorem intsAre_of : ∀ {ns : List Int} {us : List Value}, Vals (ns.map V.int) us → IntsAre us ns
  | [], _, .nil => .nil
  | n :: ns, _, .cons r t => by
    obtain ⟨k, rfl⟩ := r
    exact .cons n k (intsAre_of t)
/-- set(xs) -/
def rSetI (K : Fg) (w : World) : List V → Hp → VK → Prop := fun xs H Q => ∃ (l : Addr) (ns : List Int), xs = [V.ref l] ∧ SqL K H l (ns.map V.int) ∧ ns.length < 64 ∧
  ∀ (S : Int → Bool) (c : Nat) (p : Addr), (∀ k, S k = true ↔ k ∈ ns) → c < 64 → H p = none → Q (.ref p) (upd H p (SetO w p S c))
theorem cr_setI (hc : X.calm = true) : CallR X (.type "set") (rSetI X.K X.w) := by
  intro pins s σ H xs us Q I r h
  obtain ⟨l, ns, rfl, hq, h64, q⟩ := h
  rw [Vals.ref1 r]
  obtain ⟨its, rv, pl, hz⟩ := I.list hq
  have len : its.length = ns.length := by rw [← rv.length, List.length_map]
  refine mkset_ints (I.ok.hd hc) pl.isList (ns := ns) (by simpa using intsAre_of rv) (by rw [List.size_toArray, len]; unfold scanBound; omega) fun h' tk ⟨S, c, R, m, z⟩ kp => ?_
  rw [List.take_length] at m
  exact ⟨.ref _, upd H s.heap.objs.size (SetO X.w s.heap.objs.size S c), I.laid (t' := tk) kp (Nat.le_refl _) (setO_new R), rfl, q S c _ m (by omega) (I.hok.fresh (Nat.le_refl _))⟩
end
end Ev

end
section
set_option linter.all false
set_option maxHeartbeats 2000000
/-! sorted(xs) of data that can be compared place by place. -/
namespace Ev
open PySem PySem.Spec PyProof.Rows L2
section
variable {X : Cx} {pins : List (Addr × Obj)} {σ : L2.St} {H : Hp} {s : Shared}
mutual
theorem Rp.reads (I : Inv X pins σ H s) : ∀ {x : V} {d : D}, Rp X.K H x d → PySem.W.alike d d = true → ∀ u, RelV x u → ∃ as, Reads s.heap u d as
  | _, _, .non, _, u, r => by
    cases (show u = Value.none from r)
    exact ⟨_, .none⟩
  | _, _, .bl b, _, u, r => by
    cases (show u = Value.bool b from r)
    exact ⟨_, .bool b⟩
  | _, _, .int i, _, u, r => by
    obtain ⟨t, rfl⟩ := (show ∃ t, u = Value.int i t from r)
    exact ⟨_, .int i t⟩
  | _, _, .str x, _, u, r => by
    obtain ⟨t, rfl⟩ := (show ∃ t, u = Value.str x t from r)
    exact ⟨_, .str x t⟩
  | _, _, .lst (a := a) h q, al, u, r => by
    cases (show u = Value.ref a from r)
    obtain ⟨its, rv, ⟨o, n, e1, e2, e3, e4⟩, _⟩ := I.list (SqL.of h)
    obtain ⟨as, ra⟩ := RpL.reads I q (by simpa [PySem.W.alike] using al) _ rv
    exact ⟨_, .list e1 e2 e4 ra⟩
  | _, _, .tup (a := a) h q, al, u, r => by
    cases (show u = Value.ref a from r)
    obtain ⟨its, rv, ⟨o, e1, e2, n, e4⟩, _⟩ := I.tuple h.sqt
    obtain ⟨as, ra⟩ := RpL.reads I q (by simpa [PySem.W.alike] using al) _ rv
    exact ⟨_, .tuple e1 e2 e4 ra⟩
  | _, _, .dic _ _, al, _, _ => absurd al (by simp [PySem.W.alike])
  | _, _, .scr _ _, al, _, _ => absurd al (by simp [PySem.W.alike])
  | _, _, .dit _ _, al, _, _ => absurd al (by simp [PySem.W.alike])
theorem RpL.reads (I : Inv X pins σ H s) : ∀ {xs : List V} {ds : List D}, RpL X.K H xs ds → PySem.W.alikeAll ds ds = true → ∀ us, Vals xs us → ∃ as, ReadsAll s.heap us ds as
  | _, _, .nil, _, _, .nil => ⟨_, .nil⟩
  | _, _, .cons h q, al, _, .cons r t => by
    obtain ⟨a1, a2⟩ := PySem.W.alike_all_cons al
    obtain ⟨as, ra⟩ := Rp.reads I h a1 _ r
    obtain ⟨bs, rb⟩ := RpL.reads I q a2 _ t
    exact ⟨_, .cons ra rb⟩
end
end
section
variable {X : Cx}
def rSrt (K : Fg) : List V → Hp → VK → Prop := fun vs H Q => ∃ (F : Hp) (a : Addr) (xs : List V) (ds : List D), vs = [V.ref a] ∧ Sub F H ∧ SqL K H a xs ∧ RpL K F xs ds ∧ srtOk ds = true ∧
  ∀ (ys : List V) (p : Addr), RpL K F ys (srtD ds) → H p = none → Q (.ref p) (upd H p (.lst ys))
theorem each_zip {K : Fg} {F : Hp} : ∀ {xs : List V} {ds : List D} {its : List Value}, RpL K F xs ds → Vals xs its → PySem.W.EachIs (fun v (b : V × D) => RelV b.1 v ∧ Rp K F b.1 b.2) its (xs.zip ds)
  | _, _, _, .nil, .nil => .nil
  | _, _, _, .cons h q, .cons r t => .cons ⟨r, h⟩ (each_zip q t)
theorem each_back {K : Fg} {F : Hp} : ∀ {its : List Value} {bs : List (V × D)}, PySem.W.EachIs (fun v (b : V × D) => RelV b.1 v ∧ Rp K F b.1 b.2) its bs → Vals (bs.map (·.1)) its ∧ RpL K F (bs.map (·.1)) (bs.map (·.2))
  | _, _, .nil => ⟨.nil, .nil⟩
  | _, _, .cons h q => ⟨.cons h.1 (each_back q).1, .cons h.2 (each_back q).2⟩
theorem zip_snd {xs : List V} {ds : List D} (h : xs.length = ds.length) : (xs.zip ds).map (·.2) = ds := List.map_snd_zip (by omega)
theorem cr_srt (hu : X.A.units + 65 < cLine) : CallR X (.builtin "sorted") (rSrt X.K) := by
  intro pins s σ H vs us Q I r h
  obtain ⟨F, a, xs, ds, rfl, sb, hs, rx, ok, q⟩ := h
  obtain ⟨its, rv, pl, hz⟩ := I.list hs
  rw [Vals.ref1 r]
  unfold srtOk at ok
  simp only [Bool.and_eq_true, Bool.or_eq_true, decide_eq_true_eq, List.all_eq_true] at ok
  obtain ⟨o1, o2, o3, o4⟩ := ok
  have lz := zip_snd rx.length
  have hal : PySem.W.AllAlike ((xs.zip ds).map fun b : V × D => b.2) := by
    rw [lz]
    exact fun d hd d' hd' => o2 d hd d' hd'
  have hk : PySem.W.Sortable ((xs.zip ds).map fun b : V × D => b.2) := by
    rw [lz]
    rcases o3 with o3 | o3
    · refine .inl fun d hd => ?_
      have := o3 d hd
      unfold tupB at this
      split at this
      · exact ⟨_, _, rfl⟩
      · cases this
    · refine .inr fun d hd => ?_
      have := o3 d hd
      unfold othB at this
      split at this
      · cases this
      · cases this
      · rename_i n1 n2
        exact ⟨fun e => n2 e, fun ys e => n1 ys e⟩
  have hlen : (xs.zip ds).length = ds.length := by
    rw [List.length_zip, rx.length]
    omega
  have e0 := each_zip rx rv
  refine PySem.W.sorted_data (enc := fun b : V × D => b.2) (R := fun v b => RelV b.1 v ∧ Rp X.K F b.1 b.2) (by simpa using pl.isList) e0 ?_ hal hk (by rw [hlen, ← szl]; exact o1) (fun b hb => ?_) fun out ho eo => ?_
  · have al : ∀ d ∈ ds, PySem.W.alike d d = true := fun d hd => o2 d hd d hd
    refine (PySem.W.each_mem e0).mono fun v b ⟨⟨r1, r2⟩, hb⟩ => ?_
    exact (r2.mono sb).reads I (al _ (by rw [← lz]; exact List.mem_map_of_mem hb)) v r1
  · have : b.2 ∈ ds := by rw [← lz]; exact List.mem_map_of_mem hb
    have := o4 _ this
    omega
  · obtain ⟨v1, v2⟩ := each_back eo
    have es : ((xs.zip ds).mergeSort (PySem.W.dataLe false fun b : V × D => b.2)).map (·.2) = srtD ds := by
      have z := PySem.W.sort_maps (r := PySem.W.dataLe false fun b : V × D => b.2) (s := PySem.W.dataLe false id) (fun b : V × D => b.2) (l := xs.zip ds) (fun _ _ _ _ => rfl)
      rw [lz] at z
      exact z
    rw [es] at v2
    obtain ⟨ep, he⟩ := PyProof.Rows.sortedAll_at s.heap its out.toArray
    refine ⟨.ref _, upd H (s.heap.objs.size + 1) (.lst _), I.laid (t' := s.toks) (fun _ _ => PyProof.Rows.sortedAll_old) (Nat.le_succ _) ⟨?_, out, ep, v1, he⟩, rfl, q _ _ v2 (I.hok.fresh (Nat.le_succ _))⟩
    rw [List.length_map, List.length_mergeSort, hlen, ← szl]
    exact o1
end
end Ev

end
section
set_option linter.all false
set_option maxHeartbeats 2000000
/-! sorted(d) of a dict whose keys are tuples. -/
namespace Ev
open PySem PySem.Spec PyProof.Rows L2
section
variable {X : Cx}
def rSrd (K : Fg) : List V → Hp → VK → Prop := fun vs H Q => ∃ (d : Addr) (kvs : List (List Key × V)), vs = [V.ref d] ∧ Rd H d (.dT kvs) ∧ ∀ bs, IsKeys H kvs bs → ∃ (G : Hp) (ds : List D), Sub G H ∧ RpL K G (bs.map V.ref) ds ∧ srtOk ds = true ∧
  ∀ (ys : List V) (p : Addr), RpL K G ys (srtD ds) → H p = none → Q (.ref p) (upd H p (.lst ys))
theorem cr_srd (hc : X.calm = true) (hu : X.A.units + 65 < cLine) : CallR X (.builtin "sorted") (rSrd X.K) := by
  intro pins s σ H xs us Q I r h
  obtain ⟨d, kvs, rfl, hd, hq⟩ := h
  obtain ⟨u, rfl, rx⟩ := r.one
  cases rx
  obtain ⟨z, hs, ks, pr, o, es, ep, ho, hx, hdt, he, hn⟩ := (show ObjOk X.prog X.w H s.heap d (.dT kvs) from hd.ok I.hok)
  have l1 : es.size = ks.length := size_of_entries he
  have l2 : kvs.length = ks.length := Paired.length pr
  obtain ⟨G, ds, sb, rl, ok, q⟩ := hq (ks.map fun x => x.2.1) (isKeys_of pr)
  refine Calls.call_function_entry PyProof.Rows.kind_sorted PyProof.Rows.plain_sorted PyProof.Rows.entry_sorted (PyProof.Rows.args_sorted1 _) ?_
  unfold Builtin.«sorted»
  refine wpAny_bind (m := checkCount "sorted" 1 1 _) (wpAny_pure ?_)
  refine wpAny_bind (PySem.W.kdu_collect (A := X.A.in1) (kdl_raw hs hx hdt) (I.ok.hd hc) ho (by omega) fun h' tk acc' kp it => ?_)
  have ea : acc'.toList = ks.map fun x => Value.ref x.2.1 := by
    have hl : acc'.toList.length = ks.length := by rw [Array.length_toList, it.1]; exact l1
    apply List.ext_getElem?
    intro j
    rw [List.getElem?_map]
    cases hj : acc'.toList[j]? with
    | none =>
      have h1 := List.getElem?_eq_none_iff.mp hj
      rw [List.getElem?_eq_none (by omega)]
      all_goals rfl
    | some v =>
      obtain ⟨en, hen, hv⟩ := it.2 j v (by rw [← Array.getElem?_toList]; exact hj)
      have qe := entry_at he j
      rw [hen] at qe
      cases hb : ks[j]? with
      | none =>
        rw [hb] at qe
        exact nomatch (show some en = none from qe)
      | some b =>
        rw [hb] at qe
        have e2 : en = entryOfKey (tupleKind (mixKind X.prog X.w)) b := Option.some.inj qe
        rw [hv, e2]
        all_goals rfl
  have eb : acc'.toList = (ks.map fun x => x.2.1).map Value.ref := by rw [ea, List.map_map]; all_goals rfl
  have rv : Vals ((ks.map fun x => x.2.1).map V.ref) acc'.toList := by rw [eb]; exact vals_refs _
  generalize (ks.map fun x => x.2.1).map V.ref = xs at rv rl
  generalize hvs : acc'.toList = vs at rv
  clear ea eb
  have hal : vs.length ≤ sizeLine := by rw [← hvs, Array.length_toList, it.1]; omega
  have I1 : Inv X pins σ H { s with heap := h', toks := tk } := I.kept kp
  refine wpAny_bind (wpAny_newList ?_ hal)
  have hoL : (h'.push (seqObj "list" vs.toArray 0)).get? h'.objs.size = some (seqObj "list" vs.toArray 0) := Heap.get?_push_size _ rfl
  show wpAny _ _ _ _ _ { s with heap := h'.push (seqObj "list" vs.toArray 0), toks := tk }
  unfold srtOk at ok
  simp only [Bool.and_eq_true, Bool.or_eq_true, decide_eq_true_eq, List.all_eq_true] at ok
  obtain ⟨o1, o2, o3, o4⟩ := ok
  have lz := zip_snd rl.length
  have hal2 : PySem.W.AllAlike ((xs.zip ds).map fun b : V × D => b.2) := by
    rw [lz]
    exact fun d hd d' hd' => o2 d hd d' hd'
  have hk : PySem.W.Sortable ((xs.zip ds).map fun b : V × D => b.2) := by
    rw [lz]
    rcases o3 with o3 | o3
    · refine .inl fun d hd => ?_
      have := o3 d hd
      unfold tupB at this
      split at this
      · exact ⟨_, _, rfl⟩
      · cases this
    · refine .inr fun d hd => ?_
      have := o3 d hd
      unfold othB at this
      split at this
      · cases this
      · cases this
      · rename_i n1 n2
        exact ⟨fun e => n2 e, fun ys e => n1 ys e⟩
  have hlen : (xs.zip ds).length = ds.length := by
    rw [List.length_zip, rl.length]
    omega
  have e0 := each_zip rl rv
  have er : PySem.W.EachIs (fun v (b : V × D) => ∃ as, Reads (PySem.W.sortingHeap (h'.push (seqObj "list" vs.toArray 0)) h'.objs.size vs) v b.2 as) vs (xs.zip ds) := by
    have al : ∀ d ∈ ds, PySem.W.alike d d = true := fun d hd => o2 d hd d hd
    refine (PySem.W.each_mem e0).mono fun v b ⟨⟨r1, r2⟩, hb⟩ => ?_
    obtain ⟨as, ra⟩ := (r2.mono sb).reads I1 (al _ (by rw [← lz]; exact List.mem_map_of_mem hb)) v r1
    exact ⟨as, PyProof.Rows.Reads.keeps (fun b o e => PySem.W.sortingHeap_old (Nat.ne_of_lt (Heap.lt_size e)) (Heap.get?_push_of_some _ e)) ra⟩
  have hu2 : ∀ b ∈ xs.zip ds, X.A.in1.in1.units + (b : V × D).2.depth < cLine := fun b hb => by
    have : b.2 ∈ ds := by rw [← lz]; exact List.mem_map_of_mem hb
    have := o4 _ this
    show X.A.units + 1 + 1 + b.2.depth < cLine
    omega
  have SA := PySem.W.SortsAt.data (prog := X.prog) (w := X.w) (A := X.A.in1.in1) (s := { s with heap := PySem.W.sortingHeap (h'.push (seqObj "list" vs.toArray 0)) h'.objs.size vs, toks := tk }) (PySem.W.each_map (R := fun v d => ∃ as, Reads (PySem.W.sortingHeap (h'.push (seqObj "list" vs.toArray 0)) h'.objs.size vs) v d as) (fun b : V × D => b.2) er) hal2 hk (PySem.W.bound_map hu2)
  have eo := PySem.W.sortVals_data false e0 er hal2
  refine wpAny_bind (wpAny_holding (wpAny_call_entry PyProof.Rows.slot_list_sort ⟨_, hoL, rfl⟩ PyProof.Rows.entry_list_sort (PySem.W.list_sort_vals (s := { s with heap := h'.push (seqObj "list" vs.toArray 0), toks := tk }) hoL SA hal ⟨_, rfl, ?_⟩) (PyProof.Rows.args_list_sort _)))
  obtain ⟨v1, v2⟩ := each_back eo
  have es' : ((xs.zip ds).mergeSort (PySem.W.dataLe false fun b : V × D => b.2)).map (·.2) = srtD ds := by
    have z := PySem.W.sort_maps (r := PySem.W.dataLe false fun b : V × D => b.2) (s := PySem.W.dataLe false id) (fun b : V × D => b.2) (l := xs.zip ds) (fun _ _ _ _ => rfl)
    rw [lz] at z
    exact z
  rw [es'] at v2
  obtain ⟨e', he'⟩ := PyProof.Rows.sortedHeap_at (vs := vs) (out := (PySem.W.sortVals (PySem.W.dataKind (PySem.W.sortingHeap (h'.push (seqObj "list" vs.toArray 0)) h'.objs.size vs) ((xs.zip ds).map fun b : V × D => b.2)) false vs vs).toArray) hoL
  refine wpAny_pure ⟨_, rfl, .ref h'.objs.size, upd H h'.objs.size (.lst _), I1.laid (t' := tk) (fun b u e => ?_) (Nat.le_refl _) ⟨?_, _, e', v1, he'⟩, rfl, q _ _ v2 (I1.hok.fresh (Nat.le_refl _))⟩
  · have hb : b < h'.objs.size := Heap.lt_size e
    rw [PyProof.Rows.sortedHeap_old (Nat.ne_of_lt hb) (by rw [size_push']; exact Nat.lt_succ_of_lt hb)]
    exact Heap.get?_push_of_some _ e
  · rw [List.length_map, List.length_mergeSort, hlen, ← szl]
    exact o1
end
end Ev

end
section
set_option linter.all false
set_option maxHeartbeats 2000000
/-! sorted(d) of a dict whose keys are ints or texts. -/
namespace Ev
open PySem PySem.Spec PyProof.Rows L2
section
variable {X : Cx}
def rSrk (K : Fg) : List V → Hp → VK → Prop := fun vs H Q => ∃ (G : Hp) (d : Addr) (kvs : List (Key × V)) (ds : List D), vs = [V.ref d] ∧ Rd H d (.dK kvs) ∧ Sub G H ∧ RpL K G (kvs.map fun kv => kV kv.1) ds ∧ srtOk ds = true ∧
  ∀ (ys : List V) (p : Addr), RpL K G ys (srtD ds) → H p = none → Q (.ref p) (upd H p (.lst ys))
theorem cr_srk (hc : X.calm = true) (hu : X.A.units + 65 < cLine) : CallR X (.builtin "sorted") (rSrk X.K) := by
  intro pins s σ H xs us Q I r h
  obtain ⟨G, d, kvs, ds, rfl, hd, sb, rl, ok, q⟩ := h
  obtain ⟨u, rfl, rx⟩ := r.one
  cases rx
  obtain ⟨z, lo, vs0, rel, dd⟩ := dk_rd I.hok hd
  obtain ⟨ep, hat⟩ := dd.dictAt
  have ek : (kvs.map fun kv => kV kv.1) = vs0.map fun p => kV p.1 := by
    have e := congrArg (List.map kV) rel.keys
    rw [List.map_map, List.map_map] at e
    exact e
  have zl := rel.length
  refine Calls.call_function_entry PyProof.Rows.kind_sorted PyProof.Rows.plain_sorted PyProof.Rows.entry_sorted (PyProof.Rows.args_sorted1 _) ?_
  unfold Builtin.«sorted»
  refine wpAny_bind (m := checkCount "sorted" 1 1 _) (wpAny_pure ?_)
  refine wpAny_bind (PySem.W.kdu_collect (A := X.A.in1) (PySem.W.kdl_dict (knd := mixKind X.prog X.w) (kvs := vs0) (ep := ep) lo) (I.ok.hd hc) hat (by rw [← rel.length]; exact z) fun h' tk acc' kp it => ?_)
  have rv : Vals (vs0.map fun p => kV p.1) acc'.toList := keys_at (by rw [Array.length_toList]; exact it.1) fun j v e => it.2 j v (by rw [← Array.getElem?_toList]; exact e)
  rw [ek] at rl
  have hxl : (vs0.map fun p => kV p.1).length ≤ sizeLine := by rw [List.length_map, ← rel.length]; exact z
  have hal0 : acc'.toList.length ≤ sizeLine := by rw [Array.length_toList, it.1, ← rel.length]; exact z
  generalize (vs0.map fun p => kV p.1) = xs at rv rl
  generalize hvs : acc'.toList = vs at rv hal0
  have hal : vs.length ≤ sizeLine := hal0
  have I1 : Inv X pins σ H { s with heap := h', toks := tk } := I.kept kp
  refine wpAny_bind (wpAny_newList ?_ hal)
  have hoL : (h'.push (seqObj "list" vs.toArray 0)).get? h'.objs.size = some (seqObj "list" vs.toArray 0) := Heap.get?_push_size _ rfl
  show wpAny _ _ _ _ _ { s with heap := h'.push (seqObj "list" vs.toArray 0), toks := tk }
  unfold srtOk at ok
  simp only [Bool.and_eq_true, Bool.or_eq_true, decide_eq_true_eq, List.all_eq_true] at ok
  obtain ⟨o1, o2, o3, o4⟩ := ok
  have lz := zip_snd rl.length
  have hal2 : PySem.W.AllAlike ((xs.zip ds).map fun b : V × D => b.2) := by
    rw [lz]
    exact fun d hd d' hd' => o2 d hd d' hd'
  have hk : PySem.W.Sortable ((xs.zip ds).map fun b : V × D => b.2) := by
    rw [lz]
    rcases o3 with o3 | o3
    · refine .inl fun d hd => ?_
      have := o3 d hd
      unfold tupB at this
      split at this
      · exact ⟨_, _, rfl⟩
      · cases this
    · refine .inr fun d hd => ?_
      have := o3 d hd
      unfold othB at this
      split at this
      · cases this
      · cases this
      · rename_i n1 n2
        exact ⟨fun e => n2 e, fun ys e => n1 ys e⟩
  have hlen : (xs.zip ds).length = ds.length := by
    rw [List.length_zip, rl.length]
    omega
  have e0 := each_zip rl rv
  have er : PySem.W.EachIs (fun v (b : V × D) => ∃ as, Reads (PySem.W.sortingHeap (h'.push (seqObj "list" vs.toArray 0)) h'.objs.size vs) v b.2 as) vs (xs.zip ds) := by
    have al : ∀ d ∈ ds, PySem.W.alike d d = true := fun d hd => o2 d hd d hd
    refine (PySem.W.each_mem e0).mono fun v b ⟨⟨r1, r2⟩, hb⟩ => ?_
    obtain ⟨as, ra⟩ := (r2.mono sb).reads I1 (al _ (by rw [← lz]; exact List.mem_map_of_mem hb)) v r1
    exact ⟨as, PyProof.Rows.Reads.keeps (fun b o e => PySem.W.sortingHeap_old (Nat.ne_of_lt (Heap.lt_size e)) (Heap.get?_push_of_some _ e)) ra⟩
  have hu2 : ∀ b ∈ xs.zip ds, X.A.in1.in1.units + (b : V × D).2.depth < cLine := fun b hb => by
    have : b.2 ∈ ds := by rw [← lz]; exact List.mem_map_of_mem hb
    have := o4 _ this
    show X.A.units + 1 + 1 + b.2.depth < cLine
    omega
  have SA := PySem.W.SortsAt.data (prog := X.prog) (w := X.w) (A := X.A.in1.in1) (s := { s with heap := PySem.W.sortingHeap (h'.push (seqObj "list" vs.toArray 0)) h'.objs.size vs, toks := tk }) (PySem.W.each_map (R := fun v d => ∃ as, Reads (PySem.W.sortingHeap (h'.push (seqObj "list" vs.toArray 0)) h'.objs.size vs) v d as) (fun b : V × D => b.2) er) hal2 hk (PySem.W.bound_map hu2)
  have eo := PySem.W.sortVals_data false e0 er hal2
  refine wpAny_bind (wpAny_holding (wpAny_call_entry PyProof.Rows.slot_list_sort ⟨_, hoL, rfl⟩ PyProof.Rows.entry_list_sort (PySem.W.list_sort_vals (s := { s with heap := h'.push (seqObj "list" vs.toArray 0), toks := tk }) hoL SA hal ⟨_, rfl, ?_⟩) (PyProof.Rows.args_list_sort _)))
  obtain ⟨v1, v2⟩ := each_back eo
  have es' : ((xs.zip ds).mergeSort (PySem.W.dataLe false fun b : V × D => b.2)).map (·.2) = srtD ds := by
    have z := PySem.W.sort_maps (r := PySem.W.dataLe false fun b : V × D => b.2) (s := PySem.W.dataLe false id) (fun b : V × D => b.2) (l := xs.zip ds) (fun _ _ _ _ => rfl)
    rw [lz] at z
    exact z
  rw [es'] at v2
  obtain ⟨e', he'⟩ := PyProof.Rows.sortedHeap_at (vs := vs) (out := (PySem.W.sortVals (PySem.W.dataKind (PySem.W.sortingHeap (h'.push (seqObj "list" vs.toArray 0)) h'.objs.size vs) ((xs.zip ds).map fun b : V × D => b.2)) false vs vs).toArray) hoL
  refine wpAny_pure ⟨_, rfl, .ref h'.objs.size, upd H h'.objs.size (.lst _), I1.laid (t' := tk) (fun b u e => ?_) (Nat.le_refl _) ⟨?_, _, e', v1, he'⟩, rfl, q _ _ v2 (I1.hok.fresh (Nat.le_refl _))⟩
  · have hb : b < h'.objs.size := Heap.lt_size e
    rw [PyProof.Rows.sortedHeap_old (Nat.ne_of_lt hb) (by rw [size_push']; exact Nat.lt_succ_of_lt hb)]
    exact Heap.get?_push_of_some _ e
  · rw [List.length_map, List.length_mergeSort, hlen, ← szl]
    exact o1
end
end Ev

end
section
set_option linter.all false
set_option maxRecDepth 100000
set_option maxHeartbeats 4000000
/-! sorted, sorted(set()), list(d.values()), list(d). -/
namespace Ev
open PySem PySem.Spec PyProof.Rows L2
/-- tuples that stand in the heap are known from now on -/
structure Adopt (F G H : Hp) : Prop where
  sub : Sub F G
  new : ∀ a o, G a = some o → F a = some o ∨ ∃ xs, o = .tup xs ∧ H a = some (.tup xs)
theorem Adopt.refl (F H : Hp) : Adopt F F H := ⟨Sub.refl _, fun _ _ h => .inl h⟩
theorem Adopt.trans {F G G2 H : Hp} (a : Adopt F G H) (b : Adopt G G2 H) : Adopt F G2 H := ⟨a.sub.trans b.sub, fun c o h => (b.new c o h).elim (a.new c o) .inr⟩
theorem ob_ntup {K : Fg} {F : Hp} {xs : List V} {d : D} (h : ObR K F (.tup xs) d) : False := by
  cases d with
  | list ds => obtain ⟨_, q, _⟩ := h; cases q
  | dict ps => rcases h with ⟨_, q, _⟩ | ⟨_, _, _, q, _⟩ <;> cases q
  | _ => exact h
theorem Adopt.post {K : Fg} {B : Bs} {σ : L2.St} {r : Env} {F G H : Hp} (a : Adopt F G H) (s : StR K B F H σ r) : Post K B σ r F H r G H := by
  refine ⟨⟨fun c o h => ?_, ⟨s.dom.at_, s.dom.tb, fun c ps h => by
    rcases a.new c _ h with q | ⟨xs, q, _⟩
    · exact s.dom.nt c ps q
    · cases q⟩, s.len, fun i d h => ?_, fun i d h => ?_, s.new, s.lnt, s.inj, s.pin⟩, a.sub, Kp.refl, fun _ h => h, fun c h => ?_, fun _ h => h⟩
  · rcases a.new c o h with q | ⟨xs, rfl, q⟩
    · exact s.sub _ _ q
    · exact q
  · obtain ⟨x, e1, e2⟩ := s.val i d h
    exact ⟨x, e1, e2.mono a.sub⟩
  · obtain ⟨c, u, e1, e2, e3, e4⟩ := s.obj i d h
    refine ⟨c, u, e1, e2, ?_, e4.mono a.sub⟩
    cases q : G c with
    | none => rfl
    | some o =>
      rcases a.new c o q with w | ⟨xs, rfl, w⟩
      · rw [e3] at w; cases w
      · rw [e2] at w
        cases w
        exact (ob_ntup e4).elim
  · cases q : G c with
    | none => exact absurd q h
    | some o =>
      rcases a.new c o q with w | ⟨xs, rfl, w⟩
      · exact .inl (by rw [w]; simp)
      · exact .inr (.inl (.inr ⟨xs, w⟩))
theorem adopt_one {F H : Hp} {b : Addr} {xs : List V} (s : Sub F H) (hb : H b = some (.tup xs)) : ∃ G, Adopt F G H ∧ G b = some (.tup xs) := by
  cases q : F b with
  | some o =>
    have := s _ _ q
    rw [hb] at this
    cases this
    exact ⟨F, Adopt.refl _ _, q⟩
  | none =>
    refine ⟨upd F b (.tup xs), ⟨sub_upd q, fun c o h => ?_⟩, upd_same⟩
    by_cases e : c = b
    · subst e
      rw [upd_same] at h
      cases h
      exact .inr ⟨xs, rfl, hb⟩
    · rw [upd_ne e] at h
      exact .inl h
theorem adopt_sub {F G H : Hp} (s : Sub F H) (a : Adopt F G H) : Sub G H := fun c o h => by
  rcases a.new c o h with q | ⟨xs, rfl, q⟩
  · exact s _ _ q
  · exact q
/-- what comes, perhaps behind an object that nobody keeps -/
inductive OutG (K : Fg) (F H : Hp) : TV → V → Hp → Prop
  | one {t : TV} {z : V} {H' : Hp} : Out K F H t z H' → OutG K F H t z H'
  | two {p : Addr} {o : HO} {t : TV} {z : V} {H' : Hp} : H p = none → Out K F (upd H p o) t z H' → OutG K F H t z H'
  | ad {G : Hp} {t : TV} {z : V} {H' : Hp} : Adopt F G H → Out K G H t z H' → OutG K F H t z H'
theorem OutG.post {K : Fg} {B : Bs} {σ : L2.St} {r : Env} {F H H' : Hp} {t : TV} {z : V} (s : StR K B F H σ r) (h : OutG K F H t z H') : ∃ F', Post K B σ r F H r F' H' ∧ TvR K H σ F' H' t z := by
  cases h with
  | one h => exact h.post s
  | @two p o _ _ _ n h =>
    have p0 := laid (o := o) s n
    obtain ⟨F', p1, t1⟩ := h.post p0.st
    exact ⟨F', p0.trans p1, t1.back p0.dom⟩
  | ad a h =>
    have p0 := a.post s
    obtain ⟨F', p1, t1⟩ := h.post p0.st
    exact ⟨F', p0.trans p1, t1.back p0.dom⟩
def rU (K : Fg) (u : U1) : V → Hp → VK → Prop := fun x H Q => ∃ F d t, Sub F H ∧ Rq K F H x d ∧ u1 u d = some t ∧ ∀ z H', OutG K F H t z H' → Q z H'
def tU (te : TE) (r : V → Hp → VK → Prop) : TE := fun σ H Q => te σ H fun x H1 => r x H1 Q
section
variable {X : Cx} {B : Bs} {a ex e : Expr} {te : TE} {f : Env → Res TV} {p p2 q apos cpos pos : Pos}
theorem rd_un {u : U1} {R : V → Hp → VK → Prop} (hp : ∀ te, PE X a te → PE X ex (tU te R)) (hR : ∀ x H Q, rU X.K u x H Q → R x H Q) (ha : PE X a (RdE X.K B f)) : PE X ex (RdE X.K B fun r => (f r).bind fun x r1 => match deref r1 x with
    | some d => .of (u1 u d) r1
    | none => .stuck) := by
  refine PE.imp (hp _ ha) fun σ H Q ⟨F, r, s, tv, r', e, k⟩ => ?_
  obtain ⟨x, r1, e1, e⟩ := bind_inv e
  refine ⟨F, r, s, x, r1, e1, fun xv F1 H1 p1 t1 => hR xv H1 Q ?_⟩
  split at e
  · rename_i d z
    obtain ⟨e2, rfl⟩ := of_inv e
    refine ⟨F1, d, tv, p1.st.sub, deref_rq p1.st t1 z, e2, fun y H' o => ?_⟩
    obtain ⟨F2, p2, t2⟩ := o.post p1.st
    exact k y F2 H' (p1.trans p2) (t2.back p1.dom)
  · cases e
/-! sorted -/
theorem boot_sorted : bootBuiltins ("sorted" : Str) = some (.builtin "sorted") := by decide +kernel
theorem boot_settype : bootBuiltins ("set" : Str) = some (.type "set") := by decide +kernel
theorem boot_listtype : bootBuiltins ("list" : Str) = some (.type "list") := by decide +kernel
theorem rd_sst (hc : X.calm = true) (hg : Gl X "sorted") (hm : X.mg "sorted" = none) (hg2 : Gl X "set") (hm2 : X.mg "set" = none) (hpl : plainE a = true) (ha : PE X a (RdE X.K B f)) :
    PE X (.Call (.Name "sorted" p) [.Call (.Name "set" p2) [a] [] q] [] pos) (RdE X.K B fun r => (f r).bind fun x r1 => match deref r1 x with
    | some d => .of (u1 .sst d) r1
    | none => .stuck) := by
  refine rd_un (u := .sst) (R := fun x H Q => rSetI X.K X.w [x] H fun y H2 => rSortedSet X.w [y] H2 Q)
    (fun te ha => pe_callB (cr_sortedSet hc) hg hm boot_sorted (pa_cons (pe_callTy (cr_setI hc) hg2 hm2 boot_settype (pa_cons ha pa_nil (star_cons hpl)) (he := star_cons hpl) (hpl := star_any rfl)) pa_nil (star_cons rfl)) (he := star_cons rfl) (hpl := star_any rfl)) (fun x H Q ⟨F, d, t, sb, hx, e, q⟩ => ?_) ha
  unfold u1 at e
  cases d <;> simp only [reduceCtorEq] at e
  split at e
  · rename_i l64
    rw [Option.map_eq_some_iff] at e
    obtain ⟨ns, e1, rfl⟩ := e
    obtain ⟨l, xs, rfl, h1, r1⟩ := hx.lst sb
    obtain rfl := intsL_V r1 e1
    have len : ns.length < 64 := by
      have := r1.length
      rw [List.length_map] at this
      omega
    refine ⟨l, ns, rfl, SqL.of h1, len, fun S c p m hc hp => ⟨p, S, c, rfl, upd_same, hc, fun ms p2 up mem _ hp2 => q _ _ (.two hp (.lst hp2 ?_))⟩⟩
    have : ms = sortU ns := up_same up (sortU_up ns) fun k => by rw [mem, m, mem_sortU]
    rw [this]
    exact RpL.of V.int PyData.int (fun i => .int i) _
  · cases e
/-! list(d.values()) -/
theorem paired_pt {α β : Type} {R : α → β → Prop} : ∀ {xs : List α} {ys : List β}, xs.length = ys.length → (∀ (i : Nat) (x : α) (y : β), xs[i]? = some x → ys[i]? = some y → R x y) → Paired R xs ys
  | [], [], _, _ => .nil
  | [], _ :: _, h, _ => by cases h
  | _ :: _, [], h, _ => by cases h
  | x :: xs, y :: ys, h, k => .cons (k 0 x y rfl rfl) (paired_pt (Nat.succ.inj h) fun i a b h1 h2 => k (i + 1) a b (by simpa using h1) (by simpa using h2))
def rVals : V → Hp → VK → Prop := fun x H Q => ∃ (d : Addr) (xs : List V), x = .ref d ∧ ((∃ kvs, Rd H d (.dK kvs) ∧ xs = kvs.map (·.2)) ∨ (∃ kvs, Rd H d (.dT kvs) ∧ xs = kvs.map (·.2))) ∧ ∀ p, H p = none → Q (.ref p) (upd H p (.lst xs))
/-- the dict's entries, and its values by them -/
theorem vals_raw {pins : List (Addr × Obj)} {σ : L2.St} {H : Hp} {s : Shared} {d : Addr} {xs : List V} (I : Inv X pins σ H s) (h : (∃ kvs, Rd H d (.dK kvs) ∧ xs = kvs.map (·.2)) ∨ (∃ kvs, Rd H d (.dT kvs) ∧ xs = kvs.map (·.2))) :
    (d == sysModules) = false ∧ xs.length ≤ sizeLine ∧ ∃ es ep, s.heap.DictRaw d es ep ∧ xs.length = es.size ∧ ∀ (i : Nat) (x : V) (hi : i < es.size), xs[i]? = some x → RelV x es[i].val := by
  rcases h with ⟨kvs, hd, rfl⟩ | ⟨kvs, hd, rfl⟩
  · obtain ⟨hz, nm, vs, kv, hdo⟩ := (show ObjOk X.prog X.w H s.heap d (.dK kvs) from hd.ok I.hok)
    obtain ⟨es, ep, raw, sz, ent⟩ := Heap.DictOf.raw hdo
    have lk : kvs.length = vs.length := Paired.length kv
    refine ⟨nm, by rw [List.length_map]; exact hz, es, ep, raw, by rw [List.length_map]; omega, fun i x hi e => ?_⟩
    rw [List.getElem?_map, Option.map_eq_some_iff] at e
    obtain ⟨p, e1, rfl⟩ := e
    obtain ⟨w, e2, _, e3⟩ := LiI.paired_get kv e1
    rw [(ent i hi w.1 w.2 e2).2]
    exact e3
  · obtain ⟨hz, nm, vs, kv, o, es, ep, e1, e2, e3, e4, _⟩ := (show ObjOk X.prog X.w H s.heap d (.dT kvs) from hd.ok I.hok)
    have lk : kvs.length = vs.length := Paired.length kv
    have sz : es.size = vs.length := by
      have := congrArg List.length e4
      rwa [Array.length_toList, List.length_map] at this
    refine ⟨nm, by rw [List.length_map]; exact hz, es, ep, ⟨o, e1, e2, e3⟩, by rw [List.length_map]; omega, fun i x hi e => ?_⟩
    rw [List.getElem?_map, Option.map_eq_some_iff] at e
    obtain ⟨p, q1, rfl⟩ := e
    obtain ⟨w, q2, _, _, q3⟩ := LiI.paired_get kv q1
    have q4 : es.toList[i]? = some es[i] := by rw [Array.getElem?_toList, Array.getElem?_eq_getElem hi]
    rw [e4, List.getElem?_map, q2] at q4
    rw [← Option.some.inj q4]
    exact q3
theorem pe_vals (hc : X.calm = true) (hg : Gl X "list") (hm : X.mg "list" = none) (hb : baseB e = true) (hl : (apos.endLine == cpos.line) = true) (he : PE X e te) :
    PE X (.Call (.Name "list" p) [.Call (.Attribute e "values" apos) [] [] cpos] [] pos) (tU te rVals) := by
  have hs : starEach [.Call (.Attribute e "values" apos) [] [] cpos] X.env = (false, eval (.Call (.Attribute e "values" apos) [] [] cpos) X.env) :: starEach [] X.env := star_cons rfl
  refine ⟨fun pins s σ H Q I h => ?_⟩
  refine wpAny_Call_Name_kw (ld_blt I hg hm boot_listtype (PyProof.Rows.callWith_type1 ?_ hs rfl))
  rw [hs]
  refine Calls.spliced_cons (show wpAny _ _ (eval (.Call (.Attribute e "values" apos) [] [] cpos) X.env) _ _ s from ?_)
  refine wpAny_Call_method (T := "dict") (id := "dict.values") (base_ok hb) rfl hl F.plainAttrs_dict F.slot_dict_values F.type_dict_values (thn (he.run pins s σ H _ I h) fun u s1 ⟨x, H1, I1, rx, d, xs, ex, hd, q⟩ => ?_)
  subst ex
  obtain rfl : u = Value.ref d := rx
  obtain ⟨nm, len, es, ep, raw, sz, rel⟩ := vals_raw I1 hd
  refine ⟨raw.typeIs, fun b z => ?_, (method_meetsIn F.slot_dict_values F.entry_dict_values rfl (PySem.evalArgs_none ⟨rfl, raw.typeIs, F.args_dict_values_1 _, _, meets_dict_values_raw d nm, ⟨es, ep, raw⟩, Calls.spliced_nil ?_⟩))⟩
  · obtain ⟨o, ho, hx, _⟩ := raw
    cases z
    exact ⟨o, ho, hx.2.1⟩
  refine PySem.W.kdl_call (KdlSrc.rawValues (es := es) (ep := ep)) (I1.ok.hd hc) ⟨⟨_, Heap.get?_push_size _ rfl, rfl, rfl⟩, raw.push _⟩ (by omega) fun h' tk acc c kp hS it => ?_
  have up : ∀ b o, s1.heap.get? b = some o → h'.get? b = some o := fun b o z => kp b o (Heap.get?_push_of_some _ z)
  have rv : Vals xs acc.toList := paired_pt (ys := acc.toList) (by rw [sz]; exact it.1.symm.trans Array.length_toList.symm) fun i x v q1 q2 => by
    rw [Array.getElem?_toList] at q2
    obtain ⟨hi, rfl⟩ := it.2 i v q2
    exact rel i x hi q1
  have hz : s1.heap.objs.size ≤ (s1.heap.push { cls := .type "dict_values", data := .fields #[.ref d] }).objs.size := by
    rw [Heap.size_push]
    exact Nat.le_succ _
  exact ⟨.ref _, upd H1 _ (.lst xs), I1.laid (t' := tk) up hz ⟨len, acc.toList, c, rv, hS⟩, rfl, q _ (I1.hok.fresh hz)⟩
theorem itemsD_inv {K : Fg} {F H : Hp} {x : V} {d : D} {ps : List (D × D)} (s : Sub F H) (hx : Rq K F H x d) (e : itemsD d = some ps) :
    ∃ a, x = .ref a ∧ ((∃ kvs, Rd H a (.dK kvs) ∧ RpK K F kvs ps) ∨ ∃ kvs, Rd H a (.dT kvs) ∧ RpT K F kvs ps) := by
  unfold itemsD at e
  split at e
  · cases e
  · cases e
    obtain ⟨a, kvs, e1, e2, e3⟩ := hx.dit s
    exact ⟨a, e1, .inr ⟨kvs, e2, e3⟩⟩
  · split at e
    · rename_i hk
      cases e
      obtain ⟨a, kvs, e1, e2, e3⟩ := hx.dic s hk
      exact ⟨a, e1, .inl ⟨kvs, e2, e3⟩⟩
    · cases e
  · cases e
theorem RpK.snd {K : Fg} {F : Hp} : ∀ {kvs : List (Key × V)} {ps : List (D × D)}, RpK K F kvs ps → RpL K F (kvs.map (·.2)) (ps.map (·.2))
  | _, _, .nil => .nil
  | _, _, .cons h r => .cons h r.snd
theorem RpT.snd {K : Fg} {F : Hp} : ∀ {kvs : List (List Key × V)} {ps : List (D × D)}, RpT K F kvs ps → RpL K F (kvs.map (·.2)) (ps.map (·.2))
  | _, _, .nil => .nil
  | _, _, .cons h r => .cons h r.snd
theorem rd_lvs (hc : X.calm = true) (hg : Gl X "list") (hm : X.mg "list" = none) (hb : baseB a = true) (hl : (apos.endLine == cpos.line) = true) (ha : PE X a (RdE X.K B f)) :
    PE X (.Call (.Name "list" p) [.Call (.Attribute a "values" apos) [] [] cpos] [] pos) (RdE X.K B fun r => (f r).bind fun x r1 => match deref r1 x with
    | some d => .of (u1 .lvs d) r1
    | none => .stuck) := by
  refine rd_un (u := .lvs) (R := rVals) (fun te ha => pe_vals hc hg hm hb hl ha) (fun x H Q ⟨F, d, t, sb, hx, e, q⟩ => ?_) ha
  have e' : (itemsD d).map (fun ps => TV.f (.list (ps.map (·.2)))) = some t := e
  rw [Option.map_eq_some_iff] at e'
  obtain ⟨ps, e1, rfl⟩ := e'
  obtain ⟨a, rfl, ⟨kvs, h1, r1⟩ | ⟨kvs, h1, r1⟩⟩ := itemsD_inv sb hx e1
  · exact ⟨a, _, rfl, .inl ⟨kvs, h1, rfl⟩, fun p hp => q _ _ (.one (.lst hp r1.snd))⟩
  · exact ⟨a, _, rfl, .inr ⟨kvs, h1, rfl⟩, fun p hp => q _ _ (.one (.lst hp r1.snd))⟩
theorem rng_eq : ∀ (n : Nat) (lo : Int), rng lo n = (List.range n).map fun i => PyData.int (lo + (i : Nat))
  | 0, _ => rfl
  | n + 1, lo => by
    show PyData.int lo :: rng (lo + 1) n = _
    rw [rng_eq n (lo + 1), List.range_succ_eq_map, List.map_cons, List.map_map]
    congr 1
    · simp
    · apply List.map_congr_left
      intro i _
      simp only [Function.comp]
      congr 1
      omega
theorem rd_lrg (hc : X.calm = true) (hg : Gl X "list") (hm : X.mg "list" = none) (hg2 : Gl X "range") (hm2 : X.mg "range" = none) (hpl : plainE a = true) (ha : PE X a (RdE X.K B f)) :
    PE X (.Call (.Name "list" p) [.Call (.Name "range" p2) [a] [] q] [] pos) (RdE X.K B fun r => (f r).bind fun x r1 => match deref r1 x with
    | some d => .of (u1 .lrg d) r1
    | none => .stuck) := by
  refine rd_un (u := .lrg) (R := fun x H Q => ∃ n : Int, x = .int n ∧ RgOk 0 n ∧ ∀ q, H q = none → Q (.ref q) (upd H q (.lst (rgV 0 n)))) (fun te ha => pe_listRg hc hg hm (prg_1 hg2 hm2 ha (star_cons hpl)) (star_cons rfl)) (fun x H Q ⟨F, d, t, sb, hx, e, q⟩ => ?_) ha
  unfold u1 at e
  cases d <;> simp only [reduceCtorEq] at e
  split at e
  · rename_i n h
    cases e
    refine ⟨n, hx.int, RgOk.of_le (Int.le_refl _) h.2 (by omega) h.1, fun c hc => q _ _ (.one (.lst hc ?_))⟩
    rw [rng_eq]
    unfold rgV
    rw [Int.sub_zero]
    exact RpL.of _ _ (fun i => .int _) _
  · cases e
end
end Ev

end
section
set_option linter.all false
set_option maxRecDepth 100000
set_option maxHeartbeats 4000000
/-! dict(d), dict(pairs), list(d), a written dict's get. -/
namespace Ev
open PySem PySem.Spec PyProof.Rows L2
theorem boot_dicttype : bootBuiltins ("dict" : Str) = some (.type "dict") := by decide +kernel
section
variable {X : Cx} {B : Bs} {a ex e : Expr} {te : TE} {f : Env → Res TV} {p p2 q apos cpos pos : Pos}
theorem rd_dcp (hg : Gl X "dict") (hm : X.mg "dict" = none) (hpl : plainE a = true) (ha : PE X a (RdE X.K B f)) :
    PE X (.Call (.Name "dict" p) [a] [] pos) (RdE X.K B fun r => (f r).bind fun x r1 => match deref r1 x with
    | some d => .of (u1 .dcp d) r1
    | none => .stuck) := by
  refine rd_un (u := .dcp) (R := fun x H Q => ∃ (a : Addr) (kvs : List (Key × V)), [x] = [V.ref a] ∧ Rd H a (.dK kvs) ∧ ∀ p, H p = none → Q (.ref p) (upd H p (.dK kvs)))
    (fun te ha => pe_callTy call_dictD hg hm boot_dicttype (pa_cons ha pa_nil (star_cons hpl)) (he := star_cons hpl) (hpl := star_any rfl)) (fun x H Q ⟨F, d, t, sb, hx, e, q⟩ => ?_) ha
  unfold u1 at e
  cases d <;> simp only [reduceCtorEq] at e
  split at e
  · rename_i ok
    cases e
    obtain ⟨l, kvs, rfl, h1, r1⟩ := hx.dic sb ok
    exact ⟨l, kvs, rfl, h1, fun p hp => q _ _ (.one (.obj hp (.inl ⟨kvs, rfl, r1⟩)))⟩
  · cases e
theorem pairsK_V {K : Fg} {F H : Hp} (sb : Sub F H) : ∀ {vs : List V} {ds : List D} {ps : List (D × D)}, RpL K F vs ds → pairsK ds = some ps →
    ∃ (as : List Addr) (kvs : List (Key × V)), vs = as.map V.ref ∧ Paired (fun p kv => SqT K H p [kV kv.1, kv.2]) as kvs ∧ RpK K F kvs ps
  | _, _, ps, .nil, h => by
    cases h
    exact ⟨[], [], rfl, .nil, .nil⟩
  | _, _, ps, .cons (v := v) (d := d) (vs := vs) (ds := ds) h r, e => by
    unfold pairsK at e
    split at e
    · rename_i e0
      cases e0
    · rename_i k w rest e0
      cases e0
      split at e
      · rename_i hk
        rw [Option.map_eq_some_iff] at e
        obtain ⟨qs, e1, rfl⟩ := e
        obtain ⟨as, kvs, rfl, h1, h2⟩ := pairsK_V sb r e1
        obtain ⟨b, xs, rfl, tb, rl⟩ := Rq.tup (K := K) (F := F) (H := F) (.inl h)
        obtain ⟨kk, rfl⟩ := key_of_isKey hk
        cases rl with
        | cons g1 g2 =>
          cases g2 with
          | cons g3 g4 =>
            cases g4
            have ek := rq_key (K := K) (F := F) (H := F) (.inl g1)
            subst ek
            exact ⟨b :: as, (kk, _) :: kvs, rfl, .cons (sb.sqt tb.sqt) h1, .cons g3 h2⟩
      · cases e
    · cases e
theorem mergeK_D {K : Fg} {F : Hp} : ∀ {kvs : List (Key × V)} {ps : List (D × D)}, RpK K F kvs ps → ∀ {k0 : List (Key × V)} {p0 : List (D × D)}, RpK K F k0 p0 → RpK K F (mergeK k0 kvs) (ps.foldl (fun m p => putD m p.1 p.2) p0)
  | _, _, .nil, _, _, r => r
  | _, _, .cons (k := k) h r, k0, p0, r0 => mergeK_D r (r0.put k h)
theorem rd_dks (hc : X.calm = true) (hg : Gl X "dict") (hm : X.mg "dict" = none) (hpl : plainE a = true) (ha : PE X a (RdE X.K B f)) :
    PE X (.Call (.Name "dict" p) [a] [] pos) (RdE X.K B fun r => (f r).bind fun x r1 => match deref r1 x with
    | some d => .of (u1 .dks d) r1
    | none => .stuck) := by
  refine rd_un (u := .dks) (R := fun x H Q => ∃ (a : Addr) (ps : List Addr) (kvs : List (Key × V)), [x] = [.ref a] ∧ SqL X.K H a (ps.map V.ref) ∧ Paired (fun p kv => SqT X.K H p [kV kv.1, kv.2]) ps kvs ∧ ∀ p, H p = none → Q (.ref p) (upd H p (.dK (mergeK [] kvs))))
    (fun te ha => pe_callTy (call_dictP hc) hg hm boot_dicttype (pa_cons ha pa_nil (star_cons hpl)) (he := star_cons hpl) (hpl := star_any rfl)) (fun x H Q ⟨F, d, t, sb, hx, e, q⟩ => ?_) ha
  unfold u1 at e
  cases d <;> simp only [reduceCtorEq] at e
  split at e
  · rename_i l64
    rw [Option.map_eq_some_iff] at e
    obtain ⟨ps, e1, rfl⟩ := e
    obtain ⟨l, xs, rfl, h1, r1⟩ := hx.lst sb
    obtain ⟨as, kvs, rfl, h2, h3⟩ := pairsK_V sb r1 e1
    exact ⟨l, as, kvs, rfl, SqL.of h1, h2, fun p hp => q _ _ (.one (.obj hp (.inl ⟨_, rfl, mergeK_D h3 .nil⟩)))⟩
  · cases e
/-! list(d) -/
theorem CallR.or {f : Value} {t t' : List V → Hp → VK → Prop} (h : CallR X f t) (h' : CallR X f t') : CallR X f (fun vs H Q => t vs H Q ∨ t' vs H Q) :=
  fun pins s σ H vs us Q I r z => z.elim (h pins s σ H vs us Q I r) (h' pins s σ H vs us Q I r)
theorem keys_adopt {K : Fg} {F H : Hp} : ∀ {kvs : List (List Key × V)} {ps : List (D × D)} {bs : List Addr}, Sub F H → RpT K F kvs ps → IsKeys H kvs bs → ∃ G, Adopt F G H ∧ RpL K G (bs.map V.ref) (ps.map (·.1))
  | _, _, _, s, .nil, .nil => ⟨F, Adopt.refl _ _, .nil⟩
  | _, _, _, s, .cons (k := k) h r, .cons hb t => by
    obtain ⟨G, a, rl⟩ := keys_adopt s r t
    obtain ⟨G2, a2, g⟩ := adopt_one (adopt_sub s a) hb
    exact ⟨G2, a.trans a2, .cons (.tup (.inl g) (RpL.of kV keyD (fun k => by cases k <;> first | exact .int _ | exact .str _) k)) (rl.mono a2.sub)⟩
theorem RpK.fst {K : Fg} {F : Hp} : ∀ {kvs : List (Key × V)} {ps : List (D × D)}, RpK K F kvs ps → RpL K F (kvs.map fun kv => kV kv.1) (ps.map (·.1))
  | _, _, .nil => .nil
  | _, _, .cons (k := k) h r => .cons (by cases k <;> first | exact .int _ | exact .str _) r.fst
theorem rd_lks (hc : X.calm = true) (hg : Gl X "list") (hm : X.mg "list" = none) (hpl : plainE a = true) (ha : PE X a (RdE X.K B f)) :
    PE X (.Call (.Name "list" p) [a] [] pos) (RdE X.K B fun r => (f r).bind fun x r1 => match deref r1 x with
    | some d => .of (u1 .lks d) r1
    | none => .stuck) := by
  refine rd_un (u := .lks) (R := fun x H Q => (∃ (a : Addr) (kvs : List (Key × V)), [x] = [V.ref a] ∧ Rd H a (.dK kvs) ∧ ∀ p, H p = none → Q (.ref p) (upd H p (.lst (kvs.map fun kv => kV kv.1)))) ∨ ∃ d kvs, [x] = [V.ref d] ∧ Rd H d (.dT kvs) ∧ ∀ p bs, H p = none → IsKeys H kvs bs → Q (.ref p) (upd H p (.lst (bs.map V.ref))))
    (fun te ha => pe_callTy (CallR.or (call_listD hc) (call_list_dT hc)) hg hm boot_listtype (pa_cons ha pa_nil (star_cons hpl)) (he := star_cons hpl) (hpl := star_any rfl)) (fun x H Q ⟨F, d, t, sb, hx, e, q⟩ => ?_) ha
  have e' : (itemsD d).map (fun ps => TV.f (.list (ps.map (·.1)))) = some t := e
  rw [Option.map_eq_some_iff] at e'
  obtain ⟨ps, e1, rfl⟩ := e'
  obtain ⟨a, rfl, ⟨kvs, h1, r1⟩ | ⟨kvs, h1, r1⟩⟩ := itemsD_inv sb hx e1
  · exact .inl ⟨a, kvs, rfl, h1, fun p hp => q _ _ (.one (.lst hp r1.fst))⟩
  · refine .inr ⟨a, kvs, rfl, h1, fun p bs hp hk => ?_⟩
    obtain ⟨G, ad, rl⟩ := keys_adopt sb r1 hk
    exact q _ _ (.ad ad (.lst hp rl))
theorem rd_srt (hc : X.calm = true) (hu : X.A.units + 65 < cLine) (hg : Gl X "sorted") (hm : X.mg "sorted" = none) (hpl : plainE a = true) (ha : PE X a (RdE X.K B f)) :
    PE X (.Call (.Name "sorted" p) [a] [] pos) (RdE X.K B fun r => (f r).bind fun x r1 => match deref r1 x with
    | some d => .of (u1 .srt d) r1
    | none => .stuck) := by
  refine rd_un (u := .srt) (R := fun x H Q => rSrt X.K [x] H Q ∨ rSrd X.K [x] H Q ∨ rSrk X.K [x] H Q) (fun te ha => pe_callB (CallR.or (cr_srt hu) (CallR.or (cr_srd hc hu) (cr_srk hc hu))) hg hm boot_sorted (pa_cons ha pa_nil (star_cons hpl)) (he := star_cons hpl) (hpl := star_any rfl)) (fun x H Q ⟨F, d, t, sb, hx, e, q⟩ => ?_) ha
  cases d with
  | list ds =>
    have e : (if srtOk ds = true then some (TV.f (.list (srtD ds))) else none) = some t := e
    split at e
    · rename_i ok
      cases e
      obtain ⟨l, xs, rfl, h1, r1⟩ := hx.lst sb
      exact .inl ⟨F, l, xs, _, rfl, sb, SqL.of h1, r1, ok, fun ys p r2 hp => q _ _ (.one (.lst hp r2))⟩
    · cases e
  | dict ps =>
    unfold u1 at e
    split at e <;> try contradiction
    · have h2 := ‹PyData.dict ps = _›
      cases h2
      split at e
      · rename_i ok
        cases e
        obtain ⟨l, kvs, rfl, h1, r1⟩ := hx.dit sb
        refine .inr (.inl ⟨l, kvs, rfl, h1, fun bs hk => ?_⟩)
        obtain ⟨G, ad, rl⟩ := keys_adopt sb r1 hk
        exact ⟨G, _, adopt_sub sb ad, rl, ok, fun ys p r2 hp => q _ _ (.ad ad (.lst hp r2))⟩
      · cases e
    · have h2 := ‹PyData.dict ps = _›
      cases h2
      split at e
      · rename_i hk
        split at e
        · rename_i ok
          cases e
          obtain ⟨l, kvs, rfl, h1, r1⟩ := hx.dic sb hk
          exact .inr (.inr ⟨F, l, kvs, _, rfl, h1, sb, r1.fst, ok, fun ys p r2 hp => q _ _ (.one (.lst hp r2))⟩)
        · cases e
      · cases e
  | _ => exact nomatch (show (none : Option TV) = some t from e)
end
end Ev

end
section
set_option linter.all false
set_option maxRecDepth 100000
set_option maxHeartbeats 4000000
/-! dict(pairs) with keys that are tuples. -/
namespace Ev
open PySem PySem.Spec PyProof.Rows L2
section
variable {prog : Program} {w : World} {A : Around} {E : Value → Shared → Prop}
abbrev tkd (prog : Program) (w : World) := tupleKind (mixKind prog w)
abbrev TrK := List Key × Addr × Value
theorem is_ext {h h' : Heap} {k : List Key} {a I : Addr} (x : (tkd prog w).is h k a) (ne : a ≠ I) (e : Heap.ExtBut I h h') : (tkd prog w).is h' k a := by
  obtain ⟨o, its, n, h1, h2, h3, h4⟩ := x
  exact ⟨o, its, n, e a o ne h1, h2, h3, h4⟩
theorem dofH_ext {h h' : Heap} {d I : Addr} {xs : List TrK} (m : h.DictOfH (tkd prog w) d xs) (nd : d ≠ I) (nk : ∀ x ∈ xs, x.2.1 ≠ I) (e : Heap.ExtBut I h h') : h'.DictOfH (tkd prog w) d xs := by
  obtain ⟨o, es, ep, h1, h2, h3, h4, h5, h6⟩ := m
  exact ⟨o, es, ep, e d o nd h1, h2, h3, h4, fun x hx => is_ext (h5 x hx) (nk x hx) e, h6⟩
theorem stored_keys {xs : List TrK} {k : List Key} {a : Addr} {v : Value} {x : TrK} (h : x ∈ storedH xs k a v) : x.2.1 = a ∨ ∃ y ∈ xs, x.2.1 = y.2.1 := by
  unfold storedH at h
  split at h
  · obtain ⟨y, hy, rfl⟩ := List.mem_map.mp h
    refine .inr ⟨y, hy, ?_⟩
    unfold putAt
    split <;> rfl
  · rcases List.mem_append.mp h with h | h
    · exact .inr ⟨x, h, rfl⟩
    · rw [List.mem_singleton] at h
      exact .inl (by rw [h])
theorem storedH_len (xs : List TrK) (k : List Key) (a : Addr) (v : Value) : (storedH xs k a v).length ≤ xs.length + 1 := storedAllH_length [(k, a, v)] xs
/-- each turn stores a pair -/
theorem turns_T {R : Result → Shared → Prop} {S I l : Addr} {items : Array Value} {res : Value} (hu : (tkd prog w).room A.in1) (quiet : A.handled = none) (ne1 : l ≠ I) (ne2 : S ≠ I) (ne3 : S ≠ l) :
    ∀ (todo : List TrK) (i : Nat) (done : List TrK) (ix : Int) (t : Tok) (s : Shared), items.size = i + todo.length → done.length + todo.length ≤ sizeLine →
      (∀ (j : Nat) (q : TrK), todo[j]? = some q → ∃ b : Addr, items[i + j]? = some (.ref b) ∧ b ≠ S ∧ b ≠ I ∧ IsTup s.heap b #[.ref q.2.1, q.2.2] ∧ q.2.1 ≠ S ∧ q.2.1 ≠ I ∧ (tkd prog w).is s.heap q.1 q.2.1) →
      (∀ x ∈ done, x.2.1 ≠ I) → s.heap.IsListIter I l i → s.heap.IsList l items → s.heap.DictOfH (tkd prog w) S done →
      (∀ h' tk, h'.DictOfH (tkd prog w) S (storedAllH done todo) → (∀ b o, b ≠ S → b ≠ I → s.heap.get? b = some o → h'.get? b = some o) → R (.ok (.ret res)) { s with heap := h', toks := tk }) →
      codeAny (model prog w) A (.builtin "dict.update.loop" ⟨[.ref S, .ref I, .int ix t, res], []⟩) R s := by
  intro todo
  induction todo with
  | nil =>
    intro i done ix t s sz ln ht nk it il dd fin
    refine (codeAny_builtin L2.ud_entry ?_)
    rw [(Around.under_plainId L2.ud_plain _)]
    refine wpAny_bind (m := pyNext (.ref I)) (wpAny_pyNext_list_end (A := A.in1) quiet it il (Array.getElem?_eq_none (by simp at sz; omega)) fun h' eb => ?_)
    refine wpAny_bind (m := Builtin.Dict.addKeywords S []) (wpAny_pure (wpAny_pure ?_))
    exact fin h' s.toks (dofH_ext dd ne2 nk eb) (fun b o _ nb e => eb b o nb e)
  | cons q todo ih =>
    intro i done ix t s sz ln ht nk it il dd fin
    obtain ⟨b, hb, bS, bI, tup, kS, kI, key⟩ := ht 0 q rfl
    rw [List.length_cons] at sz ln
    refine (codeAny_builtin L2.ud_entry ?_)
    rw [(Around.under_plainId L2.ud_plain _)]
    refine wpAny_bind (m := pyNext (.ref I)) (wpAny_pyNext_list_item (x := .ref b) it il (by simpa using hb) fun h1 it1 sb1 => ?_)
    have eb := sb1.extBut
    have tup1 := tup.extBut eb bI
    have il1 := il.extBut eb ne1
    have dd1 := dofH_ext dd ne2 nk eb
    have key1 := is_ext key kI eb
    obtain ⟨o, ho, hc, n, hd⟩ := id tup1
    refine wpAny_bind (m := holding [Value.ref b] _) (wpAny_holding (wpAny_bind (wpAny_tryCatch ?_)))
    unfold Builtin.Dict.pairItems
    refine wpAny_bind (wpAny_typeOf (T := "tuple") ⟨o, ho, hc⟩ ?_)
    rw [(if_pos (by rfl))]
    refine wpAny_bind (wpAny_seqItems ho hd (wpAny_pure ?_))
    refine wpAny_holding (wpAny_dictSet_heap (knd := tkd prog w) (k := q.1) hu key1 dd1 (fun h2 dd2 sb2 => ?_) (by omega))
    have nk2 : ∀ x ∈ storedH done q.1 q.2.1 q.2.2, x.2.1 ≠ I := fun x hx => by
      rcases stored_keys hx with e | ⟨y, hy, e⟩
      · rw [e]; exact kI
      · rw [e]; exact nk y hy
    refine wpAny_pure ⟨plainId_quiet L2.ud_plain _, ih (i + 1) (storedH done q.1 q.2.1 q.2.2) (ix + 1) 0 _ (show items.size = i + 1 + todo.length by omega) ?_ (fun j q' e => ?_) nk2 ?_ ?_ dd2 fun h' tk hd' k => ?_⟩
    · have := storedH_len done q.1 q.2.1 q.2.2
      omega
    · obtain ⟨b', hb', bS', bI', tup', kS', kI', key'⟩ := ht (j + 1) q' (by simpa using e)
      refine ⟨b', ?_, bS', bI', (tup'.extBut eb bI').extBut sb2.extBut bS', kS', kI', is_ext (is_ext key' kI' eb) kS' sb2.extBut⟩
      rw [(show i + 1 + j = i + (j + 1) by omega)]
      exact hb'
    · exact it1.at fun o' e => sb2.extBut I o' (Ne.symm ne2) e
    · exact il1.extBut sb2.extBut (Ne.symm ne3)
    · exact fin h' tk hd' fun c oc c1 c2 e => k c oc c1 c2 (sb2.extBut c oc c1 (eb c oc c2 e))
/-- dict(l), l a list of such pairs -/
theorem call_dict_T {s : Shared} {l : Addr} {ol : Obj} {items : Array Value} {n : Nat} {prs : List TrK} {Q : Value → Shared → Prop} (hu : A.units + 2 < cLine) (quiet : A.handled = none) (hl : s.heap.get? l = some ol) (c1 : ol.cls = .type "list") (c2 : ol.dict = none)
    (c3 : ol.data = .seq items n) (sz : items.size = prs.length) (ln : prs.length ≤ sizeLine)
    (ht : ∀ (j : Nat) (q : TrK), prs[j]? = some q → ∃ b : Addr, items[j]? = some (.ref b) ∧ IsTup s.heap b #[.ref q.2.1, q.2.2] ∧ (tkd prog w).is s.heap q.1 q.2.1)
    (h : ∀ h' tk, h'.DictOfH (tkd prog w) s.heap.objs.size (storedAllH [] prs) → (∀ b o, s.heap.get? b = some o → h'.get? b = some o) → Q (.ref s.heap.objs.size) { s with heap := h', toks := tk }) :
    wpAny (model prog w) A (call (.type "dict") [.ref l]) Q E s := by
  refine callType_codes (Q₁ := fun obj s₁ => obj = .ref s.heap.objs.size ∧ s₁ = { s with heap := s.heap.push { cls := .type "dict", data := .dict #[] } }) (PySem.F.kt_called_dict) (PySem.F.kt_typeCall_dict_1 _) (PySem.F.entry_dict_init) (kt_code_dict_new _ ⟨rfl, rfl⟩) ?_
  intro obj s₁ z
  obtain ⟨rfl, rfl⟩ := z
  have new : (s.heap.push { cls := .type "dict", data := .dict #[] }).DictOfH (tkd prog w) s.heap.objs.size [] := Heap.DictOfH.new s.heap
  have up0 : ∀ b o, s.heap.get? b = some o → (s.heap.push { cls := .type "dict", data := .dict #[] }).get? b = some o := fun b o e => (Heap.get?_push_of_some _ e)
  refine ⟨(new.typeIs), (PySem.F.args_dict_init_2 _ _), ?_⟩
  unfold Builtin.«dict.__init__»
  refine wpAny_bind ?_
  unfold Builtin.Dict.selfAndRest
  refine wpAny_bind (wpAny_notOrdered_dict (new.typeIs) ?_)
  refine wpAny_pure (a := (s.heap.objs.size, [Value.ref l])) ?_
  show wpAny _ _ (Builtin.Dict.updateFrom "dict.__init__" (s.heap.objs.size) (.ref l) [] .none) _ _ _
  unfold Builtin.Dict.updateFrom
  refine wpAny_bind (wpAny_typeOf (T := "list") ⟨ol, up0 _ _ hl, c1⟩ ?_)
  rw [(if_pos (by rfl))]
  refine wpAny_bind (miss_list (up0 _ _ hl) c1 c3 c2 quiet fun h1 tk1 up1 => ?_)
  rw [(if_pos (by rfl))]
  refine wpAny_bind (wpAny_rule ?_)
  have il : h1.IsList l items := ⟨ol, up1 _ _ (up0 _ _ hl), c1, n, c3⟩
  have lt1 : s.heap.objs.size < h1.objs.size := Heap.lt_size (up1 _ _ (Heap.get?_push_size s.heap (o := { cls := .type "dict", data := .dict #[] }) rfl))
  refine wpAny_bind (wpAny_pyIter_list il ?_)
  have up2 : ∀ b o, h1.get? b = some o → (h1.push { cls := .type "list_iterator", data := .fields #[.ref l, .int 0 0] }).get? b = some o := fun b o e => (Heap.get?_push_of_some _ e)
  have ll : l < s.heap.objs.size := Heap.lt_size hl
  have up : ∀ b o, s.heap.get? b = some o → (h1.push { cls := .type "list_iterator", data := .fields #[.ref l, .int 0 0] }).get? b = some o := fun b o e => up2 _ _ (up1 _ _ (up0 _ _ e))
  have isup : ∀ {k : List Key} {a : Addr}, (tkd prog w).is s.heap k a → (tkd prog w).is (h1.push { cls := .type "list_iterator", data := .fields #[.ref l, .int 0 0] }) k a ∧ a < s.heap.objs.size := fun {k a} ⟨o, its, m, q1, q2, q3, q4⟩ => ⟨⟨o, its, m, up _ _ q1, q2, q3, q4⟩, Heap.lt_size q1⟩
  have key := turns_T (prog := prog) (w := w) (A := A.in1) (R := wants (fun r s₂ => r = .none ∧ Q (.ref s.heap.objs.size) s₂) E) (S := s.heap.objs.size) (I := h1.objs.size) (l := l) (items := items) (res := Value.none) hu quiet
    (Nat.ne_of_lt (Nat.lt_trans ll lt1)) (Nat.ne_of_lt lt1) (Nat.ne_of_gt ll) prs 0 [] 0 0
    { s with heap := h1.push { cls := .type "list_iterator", data := .fields #[.ref l, .int 0 0] }, toks := tk1 } (by omega) (by simpa using ln)
    (fun j q e => by
      obtain ⟨b, e1, e2, e3⟩ := ht j q e
      have lb : b < s.heap.objs.size := e2.lt
      obtain ⟨i1, i2⟩ := isup e3
      exact ⟨b, by rw [Nat.zero_add]; exact e1, Nat.ne_of_lt lb, Nat.ne_of_lt (Nat.lt_trans lb lt1), e2.keeps up, Nat.ne_of_lt i2, Nat.ne_of_lt (Nat.lt_trans i2 lt1), i1⟩)
    (fun _ z => nomatch z) ⟨_, Heap.get?_push_size _ rfl, rfl, rfl⟩ (il.at fun o e => up2 _ _ e) (by
      obtain ⟨o, es, ep, q1, q2, q3, q4, q5, q6⟩ := new
      exact ⟨o, es, ep, up2 _ _ (up1 _ _ q1), q2, q3, q4, (fun _ z => nomatch z), q6⟩)
    (fun h' tk hd' k => ⟨rfl, h h' tk hd' fun b o e => k b o (Nat.ne_of_lt (Heap.lt_size e)) (Nat.ne_of_lt (Nat.lt_trans (Heap.lt_size e) lt1)) (up _ _ e)⟩)
  first
    | exact wpAny_pure ⟨plainId_quiet L2.ud_plain _, key⟩
    | exact wpAny_bind (wpAny_pure (wpAny_pure ⟨plainId_quiet L2.ud_plain _, key⟩))
end
section
variable {X : Cx} {B : Bs} {a : Expr} {f : Env → Res TV} {p pos : Pos}
def mergeT (k0 : List (List Key × V)) (kvs : List (List Key × V)) : List (List Key × V) := kvs.foldl (fun m q => putK m q.1 q.2) k0
theorem KT_merge {H : Hp} : ∀ {kvs : List (List Key × V)} {prs : List TrK}, KT H kvs prs → ∀ {k0 : List (List Key × V)} {x0 : List TrK}, KT H k0 x0 → KT H (mergeT k0 kvs) (storedAllH x0 prs)
  | _, _, .nil, _, _, r => r
  | _, _, .cons (a := kv) (b := q) h t, k0, x0, r => by
    obtain ⟨k, y⟩ := kv
    obtain ⟨k', b, u⟩ := q
    obtain ⟨h1, h2, h3⟩ := h
    cases (show k = k' from h1)
    exact KT_merge t (r.put k h2 h3)
theorem mergeT_len : ∀ (kvs k0 : List (List Key × V)), (mergeT k0 kvs).length ≤ k0.length + kvs.length
  | [], k0 => Nat.le_refl _
  | kv :: kvs, k0 => by
    have h1 := mergeT_len kvs (putK k0 kv.1 kv.2)
    have h2 := length_putK k0 kv.1 kv.2
    show (mergeT (putK k0 kv.1 kv.2) kvs).length ≤ k0.length + (kvs.length + 1)
    omega
def PrT (K : Fg) (H : Hp) (p : Addr) (kv : List Key × V) : Prop := ∃ b, SqT K H p [.ref b, kv.2] ∧ H b = some (.tup (kv.1.map kV))
theorem prs_of {pins : List (Addr × Obj)} {σ : L2.St} {H : Hp} {s : Shared} (I : Inv X pins σ H s) : ∀ {ps : List Addr} {kvs : List (List Key × V)}, Paired (PrT X.K H) ps kvs →
    ∃ prs : List TrK, KT H kvs prs ∧ prs.length = ps.length ∧ ∀ (j : Nat) (q : TrK), prs[j]? = some q → ∃ b : Addr, ps[j]? = some b ∧ IsTup s.heap b #[.ref q.2.1, q.2.2] ∧ (tkd X.prog X.w).is s.heap q.1 q.2.1
  | _, _, .nil => ⟨[], .nil, rfl, fun j q e => by simp at e⟩
  | _, _, .cons (a := c) (b := kv) h t => by
    obtain ⟨prs, r, hl, hp⟩ := prs_of I t
    obtain ⟨b, h1, h2⟩ := h
    obtain ⟨its, rv, ht, _⟩ := I.tuple h1
    obtain ⟨u, y, ei, ru, ry⟩ := vals2 rv
    subst ei
    cases (show u = Value.ref b from ru)
    refine ⟨(kv.1, b, y) :: prs, .cons ⟨rfl, h2, ry⟩ r, by rw [List.length_cons, List.length_cons, hl], fun j q e => ?_⟩
    cases j with
    | zero =>
      cases (show (kv.1, b, y) = q from Option.some.inj e)
      exact ⟨c, rfl, ht, key_of I.hok h2⟩
    | succ j =>
      obtain ⟨b', e1, e2⟩ := hp j q (by simpa using e)
      exact ⟨b', by simpa using e1, e2⟩
theorem cr_dictT (hc : X.calm = true) (hu : X.A.units + 2 < cLine) : CallR X (.type "dict") (fun xs H Q => ∃ (a : Addr) (ps : List Addr) (kvs : List (List Key × V)), xs = [.ref a] ∧ SqL X.K H a (ps.map V.ref) ∧ Paired (PrT X.K H) ps kvs ∧ ∀ p, H p = none → Q (.ref p) (upd H p (.dT (mergeT [] kvs)))) := by
  intro pins s σ H xs us Q I r q
  obtain ⟨a, ps, kvs, rfl, hq, hp, q⟩ := q
  obtain ⟨u, rfl, rx⟩ := vals1 r
  cases rx
  obtain ⟨its, rv, pl, hz⟩ := I.list hq
  cases refs_at rv
  rw [List.length_map] at hz
  obtain ⟨prs, rel, hl, hpr⟩ := prs_of I hp
  obtain ⟨o, n, ho, hc1, hd, hdat⟩ := pl
  refine call_dict_T (prs := prs) hu (I.ok.hd hc) ho hc1 hd hdat (by simp [hl]) (by rw [hl]; exact hz) (fun j q' e => ?_) fun h' tk hd' k => ?_
  · obtain ⟨b, e1, e2, e3⟩ := hpr j q' e
    exact ⟨b, by simp [e1], e2, e3⟩
  · have hm : (s.heap.objs.size == sysModules) = false := beq_eq_false_iff_ne.mpr (Nat.ne_of_gt I.big)
    have hn := I.hok.fresh (Nat.le_refl s.heap.objs.size)
    have hlen : (mergeT [] kvs).length ≤ sizeLine := by
      have h1 := mergeT_len kvs []
      rw [Paired.length rel, hl] at h1
      simp at h1
      omega
    have rel2 : KT (upd H s.heap.objs.size (.dT (mergeT [] kvs))) (mergeT [] kvs) (storedAllH [] prs) := (KT_merge rel .nil).keeps fun b ys eb => by
      rw [upd_ne (ne_of_none eb hn)]
      exact eb
    exact ⟨.ref s.heap.objs.size, upd H s.heap.objs.size (.dT (mergeT [] kvs)), I.laid (t' := tk) k (Nat.le_refl _) (dt_new hlen hm rel2 hd'), rfl, q _ hn⟩
theorem pairsT_V {K : Fg} {F H : Hp} (sb : Sub F H) : ∀ {vs : List V} {ds : List D} {ps : List (List D × D)}, RpL K F vs ds → pairsT ds = some ps →
    ∃ (as : List Addr) (kvs : List (List Key × V)), vs = as.map V.ref ∧ Paired (PrT K H) as kvs ∧ RpT K F kvs (ps.map fun p => (.tuple p.1, p.2))
  | _, _, ps, .nil, h => by
    cases h
    exact ⟨[], [], rfl, .nil, .nil⟩
  | _, _, ps, .cons (v := v) (d := d) (vs := vs) (ds := ds) h r, e => by
    unfold pairsT at e
    split at e
    · rename_i e0
      cases e0
    · rename_i ks w rest e0
      cases e0
      split at e
      · rename_i hk
        rw [Option.map_eq_some_iff] at e
        obtain ⟨qs, e1, rfl⟩ := e
        rw [Bool.and_eq_true] at hk
        obtain ⟨as, kvs, rfl, h1, h2⟩ := pairsT_V sb r e1
        obtain ⟨b, xs, rfl, tb, rl⟩ := Rq.tup (K := K) (F := F) (H := F) (.inl h)
        cases rl with
        | cons g1 g2 =>
          cases g2 with
          | cons g3 g4 =>
            cases g4
            obtain ⟨c, kk, rfl, hc, rfl⟩ := Rq.ktup (K := K) (F := F) (H := F) (Sub.refl F) (.inl g1) hk.1
            exact ⟨b :: as, (kk, _) :: kvs, rfl, .cons ⟨c, sb.sqt tb.sqt, sb _ _ hc⟩ h1, .cons g3 h2⟩
      · cases e
    · cases e
theorem mergeT_D {K : Fg} {F : Hp} : ∀ {kvs : List (List Key × V)} {ps : List (List D × D)}, RpT K F kvs (ps.map fun p => (.tuple p.1, p.2)) → ∀ {k0 : List (List Key × V)} {p0 : List (D × D)}, RpT K F k0 p0 → RpT K F (mergeT k0 kvs) (ps.foldl (fun m p => putT m p.1 p.2) p0)
  | [], [], _, _, _, r => r
  | [], _ :: _, h, _, _, _ => nomatch h
  | _ :: _, [], h, _, _, _ => nomatch h
  | (k, v) :: kvs, (ks, d) :: ps, h, k0, p0, r0 => by
    have h' : RpT K F ((k, v) :: kvs) ((.tuple ks, d) :: ps.map fun p => (.tuple p.1, p.2)) := h
    generalize hq : (PyData.tuple ks, d) :: ps.map (fun p => (PyData.tuple p.1, p.2)) = q at h'
    cases h' with
    | cons h1 h2 =>
      injection hq with e1 e2
      injection e1 with e3 e4
      subst e2 e4
      injection e3 with e3
      subst e3
      exact mergeT_D h2 (r0.put k h1)
theorem rd_dts (hc : X.calm = true) (hu : X.A.units + 2 < cLine) (hg : Gl X "dict") (hm : X.mg "dict" = none) (hpl : plainE a = true) (ha : PE X a (RdE X.K B f)) :
    PE X (.Call (.Name "dict" p) [a] [] pos) (RdE X.K B fun r => (f r).bind fun x r1 => match deref r1 x with
    | some d => .of (u1 .dts d) r1
    | none => .stuck) := by
  refine rd_un (u := .dts) (R := fun x H Q => ∃ (a : Addr) (ps : List Addr) (kvs : List (List Key × V)), [x] = [.ref a] ∧ SqL X.K H a (ps.map V.ref) ∧ Paired (PrT X.K H) ps kvs ∧ ∀ p, H p = none → Q (.ref p) (upd H p (.dT (mergeT [] kvs))))
    (fun te ha => pe_callTy (cr_dictT hc hu) hg hm boot_dicttype (pa_cons ha pa_nil (star_cons hpl)) (he := star_cons hpl) (hpl := star_any rfl)) (fun x H Q ⟨F, d, t, sb, hx, e, q⟩ => ?_) ha
  unfold u1 at e
  cases d <;> simp only [reduceCtorEq] at e
  split at e
  · rw [Option.map_eq_some_iff] at e
    obtain ⟨ps, e1, rfl⟩ := e
    obtain ⟨l, xs, rfl, h1, r1⟩ := hx.lst sb
    obtain ⟨as, kvs, rfl, h2, h3⟩ := pairsT_V sb r1 e1
    exact ⟨l, as, kvs, rfl, SqL.of h1, h2, fun p hp => q _ _ (.one (.obj hp (.inr ⟨_, _, rfl, rfl, mergeT_D h3 .nil⟩)))⟩
  · cases e
end
end Ev

end
section
set_option linter.all false
set_option maxRecDepth 100000
set_option maxHeartbeats 4000000
/-! Constants of the text: data, and dicts with text keys that are looked into. -/
namespace Ev
open PySem PySem.Spec PyProof.Rows L2
/-! ### data that the text has written down -/
mutual
def dvB (K : Fg) : Nat → D → Value → Bool
  | _, .none, .none => true
  | _, .bool b, .bool c => b == c
  | _, .int i, .int j _ => decide (i = j)
  | _, .str x, .str y _ => decide (x = y)
  | n + 1, .tuple ds, .ref a => (match K.lookup a with
    | some ⟨.type c, _, .seq its _, _⟩ => decide (c = "tuple") && (decide (its.size ≤ sizeLine) && (!isKeyT ds && dvL K n ds its.toList))
    | _ => false)
  | _, _, _ => false
def dvL (K : Fg) : Nat → List D → List Value → Bool
  | _, [], [] => true
  | n + 1, d :: ds, u :: us => dvB K n d u && dvL K n ds us
  | _, _, _ => false
end
mutual
theorem dvB_ok {K : Fg} : ∀ (n : Nat) (d : D) (u : Value), dvB K n d u = true → ∃ v, RelV v u ∧ ∀ F, Rp K F v d
  | n, .none, u, h => by
    cases n <;> cases u <;> simp [dvB] at h <;> exact ⟨.non, rfl, fun _ => .non⟩
  | n, .bool b, u, h => by
    cases n <;> cases u <;> simp [dvB] at h <;> (subst h; exact ⟨.bl b, rfl, fun _ => .bl b⟩)
  | n, .int i, u, h => by
    cases n <;> cases u <;> simp [dvB] at h <;> (subst h; exact ⟨.int i, ⟨_, rfl⟩, fun _ => .int i⟩)
  | n, .str x, u, h => by
    cases n <;> cases u <;> simp [dvB] at h <;> (subst h; exact ⟨.str x, ⟨_, rfl⟩, fun _ => .str x⟩)
  | n, .list l, u, h => by
    cases n <;> cases u <;> simp [dvB] at h
  | n, .dict l, u, h => by
    cases n <;> cases u <;> simp [dvB] at h
  | 0, .tuple ds, u, h => by
    cases u <;> simp [dvB] at h
  | n + 1, .tuple ds, u, h => by
    cases u with
    | ref a =>
      simp only [dvB] at h
      split at h
      · rename_i c od its m sl e
        simp only [Bool.and_eq_true, decide_eq_true_eq, Bool.not_eq_true'] at h
        obtain ⟨rfl, h2, h3, h4⟩ := h
        obtain ⟨vs, h5, h6⟩ := dvL_ok n ds its.toList h4
        exact ⟨.ref a, rfl, fun F => .tup (.inr ⟨⟨_, its, m, e, rfl, rfl, h2, h5⟩, h3⟩) (h6 F)⟩
      · cases h
    | _ => simp [dvB] at h
theorem dvL_ok {K : Fg} : ∀ (n : Nat) (ds : List D) (us : List Value), dvL K n ds us = true → ∃ vs, Vals vs us ∧ ∀ F, RpL K F vs ds
  | n, [], [], h => ⟨[], .nil, fun _ => .nil⟩
  | n, [], _ :: _, h => by cases n <;> simp [dvL] at h
  | n, _ :: _, [], h => by cases n <;> simp [dvL] at h
  | 0, _ :: _, _ :: _, h => by simp [dvL] at h
  | n + 1, d :: ds, u :: us, h => by
    simp only [dvL, Bool.and_eq_true] at h
    obtain ⟨v, h1, h2⟩ := dvB_ok n d u h.1
    obtain ⟨vs, h3, h4⟩ := dvL_ok n ds us h.2
    exact ⟨v :: vs, .cons h1 h3, fun F => .cons (h2 F) (h4 F)⟩
end
/-! ### a dict -/
def entsB (K : Fg) : List DictEntry → List (Str × D) → Bool
  | [], [] => true
  | e :: es, p :: ps => (match e.key with
    | .str x _ => decide (x = p.1)
    | _ => false) && (dvB K 20 p.2 e.val && entsB K es ps)
  | _, _ => false
def dctB (K : Fg) (a : Addr) (ps : List (Str × D)) : Bool := match K.lookup a with
  | some ⟨_, _, .dict es _, _⟩ => entsB K es.toList ps
  | _ => false
/-- what a dict of the text tells -/
structure KDc (K : Fg) (w : World) (a : Addr) (ps : List (Str × D)) : Prop where
  ex : ∃ es n, KDict K w a es n
  is : dctB K a ps = true
theorem find_ents {K : Fg} : ∀ {es : List DictEntry} {ps : List (Str × D)}, entsB K es ps = true → ∀ z : Str, (ps.lookup z = none ∧ (es.find? fun e => Value.isStrOf z e.key) = none) ∨
    ∃ d e v, ps.lookup z = some d ∧ (es.find? fun e => Value.isStrOf z e.key) = some e ∧ RelV v e.val ∧ ∀ F, Rp K F v d
  | [], [], _, z => .inl ⟨rfl, rfl⟩
  | [], _ :: _, h, _ => by simp [entsB] at h
  | _ :: _, [], h, _ => by simp [entsB] at h
  | e :: es, p :: ps, h, z => by
    obtain ⟨x, d⟩ := p
    simp only [entsB, Bool.and_eq_true] at h
    obtain ⟨h1, h2, h3⟩ := h
    split at h1
    · rename_i y t ek
      have ey : y = x := of_decide_eq_true h1
      subst ey
      obtain ⟨v, g1, g2⟩ := dvB_ok 20 d e.val h2
      by_cases q : z = y
      · subst q
        refine .inr ⟨d, e, v, ?_, ?_, g1, g2⟩
        · rw [List.lookup_cons]; simp
        · rw [List.find?_cons, ek]; simp [Value.isStrOf]
      · have nb : Value.isStrOf z (Value.str y t) = false := by
          first
            | exact beq_false_of_ne q
            | exact decide_eq_false q
            | exact decide_eq_false (Ne.symm q)
            | exact beq_false_of_ne (Ne.symm q)
        rcases find_ents h3 z with ⟨a1, a2⟩ | ⟨d', e', v', a1, a2, a3, a4⟩
        · refine .inl ⟨?_, ?_⟩
          · rw [List.lookup_cons, beq_false_of_ne q]; exact a1
          · rw [List.find?_cons, ek, nb]; exact a2
        · refine .inr ⟨d', e', v', ?_, ?_, a3, a4⟩
          · rw [List.lookup_cons, beq_false_of_ne q]; exact a1
          · rw [List.find?_cons, ek, nb]; exact a2
    · cases h1
section
variable {X : Cx} {B : Bs} {k d : Expr} {x : Str} {p apos cpos : Pos} {f g : Env → Res TV} {tk td : TE}
theorem pe_kget {a : Addr} {es : Array DictEntry} {n : Nat} (hg : Gl X x) (hm : X.mg x = some (.ref a)) (hdb : (x == ("__debug__" : Str)) = false) (D : KDict X.K X.w a es n) (hk : PE X k tk) (hd : PE X d td) (m : M2 X (.Name x p) "get" apos k d cpos) :
    PE X (.Call (.Attribute (.Name x p) "get" apos) [k, d] [] cpos) (fun σ H Q => tk σ H fun y H1 => td σ H1 fun z H2 => ∃ (t : Str) (w : V), y = .str t ∧ (∀ r, RelV z r → RelV w ((findBy Value.isStrOf es t).getD r)) ∧ Q w H2) := by
  refine ⟨fun pins s σ H Q I h => ?_⟩
  have mp := fun {s1 : Shared} {H1 : Hp} (J : Inv X pins σ H1 s1) => PySem.W.mapOf_K (prog := X.prog) (w := X.w) J.kIn D.at_ D.lit
  refine wpAny_Call_method m.base m.few m.line (PySem.F.plainAttrs_dict) (PySem.F.slot_dict_get) (PySem.F.type_dict_get) (ld_glob I hg hm ?_ hdb)
  refine ⟨(mp I).typeIs, fun b z => ?_, ?_⟩
  · cases z
    exact ⟨_, I.kIn _ _ D.at_, rfl⟩
  rw [m.trees]
  refine Calls.callWith_builtin rfl (Calls.evalArgs_plain (Calls.spliced_cons (thn (hk.run pins s σ H _ I h) fun iv s2 ⟨y, H2, I2, ry, q2⟩ =>
    Calls.spliced_cons (thn (hd.run pins s2 σ H2 _ I2 q2) fun fv s3 ⟨z, H3, I3, rz, t, w, ey, hv, q3⟩ => Calls.spliced_nil ?_))))
  subst ey
  obtain ⟨tok, rfl⟩ := ry
  exact call_meetsIn (PySem.F.slot_dict_get) (mp I3).typeIs (PySem.F.entry_dict_get) (PySem.F.args_dict_get_3 _ _ _) (meets_dict_get_default (strKind X.prog X.w) a (PySem.strKind_is X.prog X.w t tok) D.low fv) ⟨_, mp I3, w, H3, I3.tok _, hv fv rz, q3⟩
theorem rd_kg2 {ps : List (Str × D)} (hg : Gl X x) (hdb : (x == ("__debug__" : Str)) = false) (hK : ∃ a, X.mg x = some (.ref a) ∧ KDc X.K X.w a ps) (hp : plainE k = true) (hp2 : plainE d = true) (hl : (apos.endLine == cpos.line) = true) (hk : PE X k (RdE X.K B f)) (hd : PE X d (RdE X.K B g)) :
    PE X (.Call (.Attribute (.Name x p) "get" apos) [k, d] [] cpos) (RdE X.K B fun r => (f r).bind fun y r1 => (g r1).bind fun z r2 => (solidR r2 z).bind fun w r3 => match y with
      | .d (.str t) => .ok (.d ((ps.lookup t).getD w)) r3
      | _ => .stuck) := by
  obtain ⟨a, hm, ⟨es, n, D⟩, hi⟩ := hK
  refine PE.imp (pe_kget hg hm hdb D hk hd (m2_ok rfl hp hp2 hl)) fun σ H Q ⟨F, r, s, t, r', e, c⟩ => ?_
  obtain ⟨y, r1, e1, ea⟩ := bind_inv e
  obtain ⟨z, r2, e2, eb⟩ := bind_inv ea
  obtain ⟨w, r3, e3, ec⟩ := bind_inv eb
  have hy : ∃ t1s, y = .d (.str t1s) := by
    split at ec
    · exact ⟨_, rfl⟩
    · cases ec
  obtain ⟨t1s, rfl⟩ := hy
  cases ec
  refine ⟨F, r, s, _, r1, e1, fun yv F1 H1 p1 t1 => ⟨F1, r1, p1.st, z, r2, e2, fun zv F2 H2 p2 t2 => ?_⟩⟩
  · skip
    obtain ⟨F3, p3, h3, _⟩ := solid_post p1.st p2 t2 (solidR_ok e3)
    have ty : yv = .str t1s := by
      have q : Rp X.K F1 yv (.str t1s) := t1
      cases q; rfl
    unfold dctB at hi
    rw [D.at_] at hi
    have ff : ∀ o : Option DictEntry, (es.toList.find? fun e => Value.isStrOf t1s e.key) = o → findBy Value.isStrOf es t1s = o.map (·.val) := fun o ho => by
      unfold findBy
      obtain ⟨l⟩ := es
      rw [List.find?_toArray]
      rw [show (l.find? fun e => Value.isStrOf t1s e.key) = o from ho]
    rcases find_ents hi t1s with ⟨a1, a2⟩ | ⟨d', e', v', a1, a2, a3, a4⟩
    · refine ⟨t1s, zv, ty, fun q hq => by rw [ff _ a2]; exact hq, c zv F3 H2 (p1.trans p3) ?_⟩
      rw [a1]
      exact h3
    · refine ⟨t1s, v', ty, fun q hq => by rw [ff _ a2]; exact a3, c v' F3 H2 (p1.trans p3) ?_⟩
      rw [a1]
      exact a4 F3
end
end Ev

end
section
set_option linter.all false
set_option maxHeartbeats 4000000
/-! len(set(xs)), xs a list or a tuple of ints. -/
namespace Ev
open PySem PySem.Spec PyProof.Rows L2
section
variable {X : Cx} {B : Bs} {a : Expr} {f : Env → Res TV} {p p2 q pos : Pos}
def rSetX (K : Fg) (w : World) : List V → Hp → VK → Prop := fun xs H Q => ∃ (l : Addr) (ns : List Int), xs = [V.ref l] ∧ (SqL K H l (ns.map V.int) ∨ SqT K H l (ns.map V.int)) ∧ ns.length < 64 ∧
  ∀ (S : Int → Bool) (c : Nat) (p : Addr), (∀ k, S k = true ↔ k ∈ ns) → c < 64 → H p = none → Q (.ref p) (upd H p (SetO w p S c))
theorem cr_setX (hc : X.calm = true) : CallR X (.type "set") (rSetX X.K X.w) := by
  intro pins s σ H xs us Q I r h
  obtain ⟨l, ns, rfl, hq, h64, q⟩ := h
  rcases hq with hq | hq
  · exact cr_setI hc pins s σ H [V.ref l] us Q I r ⟨l, ns, rfl, hq, h64, q⟩
  · rw [Vals.ref1 r]
    obtain ⟨its, rv, pl, hz⟩ := I.tuple hq
    refine call_set_tupI ns (I.ok.hd hc) pl (by simpa using intsAre_of rv) (by unfold scanBound; omega) fun h' tk c R z kp => ?_
    exact ⟨.ref _, upd H s.heap.objs.size (SetO X.w s.heap.objs.size (fun j => decide (j ∈ ns)) c), I.laid (t' := tk) kp (Nat.le_refl _) (setO_new R), rfl, q _ c _ (fun k => by simp) (by omega) (I.hok.fresh (Nat.le_refl _))⟩
def rLenX (w : World) : List V → Hp → VK → Prop := fun xs H Q => ∃ (p : Addr) (S : Int → Bool) (c : Nat) (ns : List Int), xs = [V.ref p] ∧ H p = some (SetO w p S c) ∧ c < 64 ∧ (∀ k, S k = true ↔ k ∈ ns) ∧ Q (.int ((sortU ns).length : Nat)) H
theorem cr_lenX : CallR X (.builtin "len") (rLenX X.w) := by
  intro pins s σ H xs us Q I r h
  obtain ⟨p, S, c, ns, rfl, hp, h64, hS, q⟩ := h
  rw [Vals.ref1 r]
  obtain ⟨o, es, ep, t, ho, hex, hd, _, nd, mem, _, hf, hn, _⟩ := setO_get I hp
  have e : es.size = (sortU ns).length := by
    have h1 : (es.toList.map keyOf).Perm (sortU ns) := (List.perm_ext_iff_of_nodup nd ((sortU_up ns).imp fun h => Int.ne_of_lt h)).mpr fun k => by rw [← mem, hS, mem_sortU]
    have h2 := h1.length_eq
    rw [List.length_map, Array.length_toList] at h2
    exact h2
  refine call_len_set ho hex hd hf (by rw [hn]; omega) ⟨.int ((sortU ns).length : Nat), H, I.tok _, ⟨_, by rw [e]⟩, q⟩
theorem rd_lns (hc : X.calm = true) (hg : Gl X "len") (hm : X.mg "len" = none) (hg2 : Gl X "set") (hm2 : X.mg "set" = none) (hpl : plainE a = true) (ha : PE X a (RdE X.K B f)) :
    PE X (.Call (.Name "len" p) [.Call (.Name "set" p2) [a] [] q] [] pos) (RdE X.K B fun r => (f r).bind fun x r1 => match deref r1 x with
    | some d => .of (u1 .lns d) r1
    | none => .stuck) := by
  refine rd_un (u := .lns) (R := fun x H Q => rSetX X.K X.w [x] H fun y H2 => rLenX X.w [y] H2 Q)
    (fun te ha => pe_callB cr_lenX hg hm boot_len (pa_cons (pe_callTy (cr_setX hc) hg2 hm2 boot_settype (pa_cons ha pa_nil (star_cons hpl)) (he := star_cons hpl) (hpl := star_any rfl)) pa_nil (star_cons rfl)) (he := star_cons rfl) (hpl := star_any rfl)) (fun x H Q ⟨F, d, t, sb, hx, e, q⟩ => ?_) ha
  unfold u1 at e
  cases d <;> simp only [reduceCtorEq] at e
  · split at e
    · rename_i l64
      rw [Option.map_eq_some_iff] at e
      obtain ⟨ns, e1, rfl⟩ := e
      obtain ⟨l, xs, rfl, h1, r1⟩ := hx.lst sb
      obtain rfl := intsL_V r1 e1
      have len : ns.length < 64 := by
        have := r1.length
        rw [List.length_map] at this
        omega
      exact ⟨l, ns, rfl, .inl (SqL.of h1), len, fun S c p m hc hp => ⟨p, S, c, ns, rfl, upd_same, hc, m, q _ _ (.two hp (.same (.int _)))⟩⟩
    · cases e
  · split at e
    · rename_i l64
      rw [Option.map_eq_some_iff] at e
      obtain ⟨ns, e1, rfl⟩ := e
      obtain ⟨l, xs, rfl, h1, r1⟩ := hx.tup
      obtain rfl := intsL_V r1 e1
      have len : ns.length < 64 := by
        have := r1.length
        rw [List.length_map] at this
        omega
      exact ⟨l, ns, rfl, .inr (sb.sqt h1.sqt), len, fun S c p m hc hp => ⟨p, S, c, ns, rfl, upd_same, hc, m, q _ _ (.two hp (.same (.int _)))⟩⟩
    · cases e
end
end Ev

end
section
set_option linter.all false
set_option maxHeartbeats 4000000
/-! A display of a dict with one pair, its key a tuple. -/
namespace Ev
open PySem PySem.Spec PyProof.Rows L2
theorem dict_subH {prog : Program} {w : World} {K : Type} [DecidableEq K] {knd : HeapKind prog w K} {A : Around} {E : Value → Shared → Prop} {s : Shared} {env : PySem.Env} {keys : List (Option Expr)} {values : List Expr} {pos : Pos} {pairs : List (Sem Value × Sem Value)} {Q : Value → Shared → Prop} (hu : knd.room A)
    (hshape : (evalEachOpt keys env).zip ((evalEach values env).map fun v => do let x ← v; standAt pos; pure x) = pairs.map fun p => (some p.1, p.2)) (h0 : pairs ≠ []) (hlen : pairs.length ≤ 15)
    (h : wpAny (model prog w) A (evalPairs pairs) (fun vs s₁ => ∃ ps, CarriesH knd s₁.heap vs ps ∧ s₁.heap.DictOfH knd s.heap.objs.size [] ∧
      ∀ h' tk, h'.DictOfH knd s.heap.objs.size (storedAllH [] ps) → Heap.SameBut s.heap.objs.size s₁.heap h' → Q (.ref s.heap.objs.size) { s₁ with heap := h', toks := tk }) E
      { s with heap := s.heap.push { cls := .type "dict", data := .dict #[] } }) :
    wpAny (model prog w) A (eval (.Dict keys values pos) env) Q E s := by
  rw [arm_eval_Dict, hshape, dictDisplay_pairs pairs h0 (by omega)]
  exact wpAny_bind (wpAny_standAt (wpAny_bind (wpAny_subDictH (knd := knd) (Q := fun d s' => wpAny (model prog w) A (pure (Value.ref d)) Q E s') hu hlen
    (wpAny_mono h (fun vs s₁ h₁ => by obtain ⟨ps, hc, hm, hq⟩ := h₁; exact ⟨ps, hc, hm, fun h' tk a b => wpAny_pure (hq h' tk a b)⟩) fun _ _ e => e))))
def tDisT1 (tk tv : TE) : TE := fun σ H Q => ∀ p, H p = none → tk σ (upd H p (.dT [])) fun y H2 => tv σ H2 fun z H3 => H3 p = some (.dT []) ∧ ∃ b ks, y = .ref b ∧ H3 b = some (.tup (ks.map kV)) ∧ Q (.ref p) (upd H3 p (.dT [(ks, z)]))
theorem pe_disT1 {X : Cx} {pos : Pos} {ek ev : Expr} {tk tv : TE} (hu : X.A.units < cLine) (hk : PE X ek tk) (hv : PE X ev tv) : PE X (.Dict [some ek] [ev] pos) (tDisT1 tk tv) := by
  refine ⟨fun pins s σ H Q I q => ?_⟩
  have hn := I.hok.fresh (Nat.le_refl s.heap.objs.size)
  have I1 := I.laid (a := s.heap.objs.size) (o := .dT []) (h' := s.heap.push { cls := .type "dict", data := .dict #[] }) (t' := s.toks) (fun _ _ q => Heap.get?_push_of_some _ q) (Nat.le_refl _) (dt_empty s.heap I.big)
  refine dict_subH (knd := tupleKind (mixKind X.prog X.w)) (pairs := [(eval ek X.env, do let x ← eval ev X.env; standAt pos; pure x)]) hu rfl (by simp) (Nat.le_add_left 1 14) ?_
  refine thn ((pps_cons hk hv pps_nil).run pins _ σ _ (fun ps H3 => match ps with
    | [(y, z)] => H3 s.heap.objs.size = some (.dT []) ∧ ∃ b ks, y = .ref b ∧ H3 b = some (.tup (ks.map kV)) ∧ Q (.ref s.heap.objs.size) (upd H3 s.heap.objs.size (.dT [(ks, z)]))
    | _ => False) I1 ?_) fun ws s2 ⟨ps, H3, I5, rw5, q5⟩ => ?_
  · exact q _ hn
  · match ps, q5, rw5 with
    | [], q5, _ => exact q5.elim
    | _ :: _ :: _, q5, _ => exact q5.elim
    | [(y, z)], q5, rw5 =>
      obtain ⟨e2, b, ks, rfl, e3, q6⟩ := q5
      obtain ⟨u2, ew⟩ : ∃ u2, ws = [(.ref b, u2)] ∧ RelV z u2 := by
        cases rw5 with
        | @cons _ w1 _ w2 h1 h2 =>
          cases h2
          obtain ⟨h3, h4⟩ := h1
          exact ⟨w1.2, by rw [show w1 = (w1.1, w1.2) from rfl, show w1.1 = Value.ref b from h3], h4⟩
      obtain ⟨ew, rz⟩ := ew
      subst ew
      obtain ⟨zq, hdq, xq, rq, ddq⟩ := dt_of I5.hok e2
      cases rq
      have kb := key_of I5.hok e3
      refine ⟨[(ks, b, u2)], ⟨rfl, rfl, kb, trivial⟩, ddq, fun h' tk dd' hs => ?_⟩
      have es : storedAllH ([] : List (List Key × Addr × Value)) [(ks, b, u2)] = [(ks, b, u2)] := rfl
      rw [es] at dd'
      have he2 : ∃ q, h'.get? s.heap.objs.size = some q := let ⟨q, _, _, hq, _⟩ := dd'; ⟨q, hq⟩
      have hz1 : ([(ks, z)] : List (List Key × V)).length ≤ sizeLine := by
        rw [sizeLine_eq]
        show 1 ≤ _
        omega
      have rk : KT H3 [(ks, z)] [(ks, b, u2)] := .cons ⟨rfl, e3, rz⟩ .nil
      have I6 := d_write (t' := tk) I5 (by rw [e2]; exact True.intro) hs he2 (dt_new hz1 hdq (rk.keeps (upd_tup (qvs := [(ks, z)]) e2)) dd')
      exact ⟨.ref s.heap.objs.size, _, I6, rfl, q6⟩
section
variable {X : Cx} {B : Bs} {ev : Expr} {es : List Expr} {ctx : Nat} {pos tpos : Pos} {h : Env → Res TV} {l : Env → Res (List D)}
theorem isKeyT_all {ds : List D} (h : isKeyT ds = true) : ds.all isKey = true := by
  unfold isKeyT at h
  rw [Bool.and_eq_true] at h
  exact h.1
theorem rd_dt1 (hu : X.A.units < cLine) (hk : PA X es (RdA X.K B l)) (hv : PE X ev (RdE X.K B h)) :
    PE X (.Dict [some (.Tuple es ctx tpos)] [ev] pos) (RdE X.K B fun r => (l r).bind fun ds r1 => (h r1).bind fun z r2 => (solidR r2 z).bind fun w r3 =>
      if isKeyT ds = true ∧ ds.length ≤ SZ then .ok (.f (.dict [markT, (.tuple ds, w)])) r3 else .stuck) := by
  refine PE.imp (pe_disT1 hu (pe_tup hk) hv) fun σ H Q ⟨F, r, st, t, r', e, c⟩ p hp => ?_
  obtain ⟨ds, r2, e2, e⟩ := bind_inv e
  obtain ⟨z, r3, e3, e⟩ := bind_inv e
  obtain ⟨w, r4, e4, e⟩ := bind_inv e
  split at e
  · rename_i hc
    obtain ⟨c1, c0⟩ := hc
    cases e
    obtain ⟨fp, no⟩ := new_away (o := .dT []) st hp
    have lp := laid (o := .dT []) st hp
    refine ⟨F, r, lp.st, ds, r2, e2, fun xs F2 H2 p2 rl => ?_⟩
    obtain ⟨kk, e6, e7⟩ := keysL rl (isKeyT_all c1)
    subst e6 e7
    refine ⟨?_, fun b hb => ?_⟩
    · rw [List.length_map] at c0 ⊢
      rw [← szl]
      exact c0
    · have lb := laid (o := .tup (kk.map kV)) p2.st hb
      obtain ⟨fb, nb⟩ := new_away (o := .tup (kk.map kV)) p2.st hb
      refine ⟨F2, r2, lb.st, z, r3, e3, fun zv F3 H3 p3 t3 => ?_⟩
      obtain ⟨F4, p4, h4, _⟩ := solid_post lb.st p3 t3 (solidR_ok e4)
      have hb4 := p4.frame.at_ _ _ upd_same nb pl_tup
      have p24 := (p2.trans lb).trans p4
      obtain ⟨hp4, fp4, no4⟩ := away p24 upd_same fp no
      refine ⟨hp4, b, kk, rfl, hb4, ?_⟩
      have P5 := post_upd (o := .dT [(kk, zv)]) (lp.trans p24) (nT_none hp) fp4 no4
      exact c _ F4 _ P5 ⟨p, _, rfl, upd_same, fp4, .inr ⟨_, _, rfl, rfl, .cons h4 .nil⟩, nT_none hp⟩
  · cases e
end
end Ev

end
section
set_option linter.all false
set_option maxRecDepth 100000
set_option maxHeartbeats 4000000
/-! x[::-1]; list(d.items()), the keys of d tuples or not. -/
namespace Ev
open PySem PySem.Spec PyProof.Rows L2 HT
section
variable {prog : Program} {w : World} {A : Around} {E : Value → Shared → Prop} {s : Shared}
theorem back_adj (n : Nat) : Builtin.Slice.sliceAdjust none none (-1) (n : Int) = ((n : Int) - 1, -1) := rfl
theorem back_places (n : Nat) : Builtin.Slice.slicePlaces ((n : Int) - 1) (-1) (-1) = n := by
  unfold Builtin.Slice.slicePlaces
  have h1 : ¬ ((-1 : Int) > 0) := by decide
  have e : (-(-1) : Int) = 1 := by decide
  simp only [h1, if_false, e, Int.ediv_one]
  split <;> omega
theorem sliceApplied_back {sl : Addr} {vl vu vs : Value} {n : Nat} {Q : Int × Int × Nat → Shared → Prop} (hs : s.heap.IsSliceOf sl vl vu vs) (pl : IsPart vl none) (pu : IsPart vu none) (ps : IsPart vs (some (-1)))
    (h : Q ((n : Int) - 1, -1, n) s) : wpAny (model prog w) A (Builtin.Slice.sliceApplied (.ref sl) (pure (n : Int))) Q E s := by
  obtain ⟨os, hos, hcs, hds⟩ := id hs
  unfold Builtin.Slice.sliceApplied Builtin.Slice.sliceFields
  refine wpAny_bind (wpAny_bind (wpAny_field hos hds (x := vl) rfl (wpAny_bind (wpAny_field hos hds (x := vu) rfl (wpAny_bind (wpAny_field hos hds (x := vs) rfl (wpAny_pure ?_)))))))
  refine wpAny_bind (slicePart_ ps ?_)
  show wpAny _ _ (if ((-1 : Int) == 0) = true then _ else _) _ _ s
  rw [if_neg (by decide)]
  refine wpAny_bind (slicePart_ pl (wpAny_bind (slicePart_ pu (wpAny_bind (wpAny_pure ?_)))))
  show wpAny _ _ (match Builtin.Slice.sliceAdjust none none (-1) (n : Int) with | (lo, hi) => pure (lo, (-1 : Int), Builtin.Slice.slicePlaces lo hi (-1))) _ _ s
  rw [back_adj]
  show wpAny _ _ (pure ((n : Int) - 1, (-1 : Int), Builtin.Slice.slicePlaces ((n : Int) - 1) (-1) (-1))) _ _ s
  rw [back_places]
  exact wpAny_pure h
theorem pick_back (xs : Array Value) : ((List.range xs.size).filterMap fun (m : Nat) => xs[(((xs.size : Int) - 1) + (m : Int) * (-1)).toNat]?).toArray = xs.toList.reverse.toArray := by
  have e : (fun (m : Nat) => xs[(((xs.size : Int) - 1) + (m : Int) * (-1)).toNat]?) = (fun k => xs[k]?) ∘ (fun m => xs.size - 1 - m) ∘ id := by
    funext m
    show _ = xs[xs.size - 1 - m]?
    congr 1
    omega
  rw [e, ← List.filterMap_map]
  show ((List.map (fun m => xs.size - 1 - m) (List.range xs.size)).filterMap _).toArray = _
  rw [PySem.W.krv_range, List.filterMap_reverse, PySem.W.krv_all]
theorem getItem_tuple_back {t sl : Addr} {items : Array Value} {vl vu vs : Value} {Q : Value → Shared → Prop} (ht : IsTup s.heap t items) (hs : s.heap.IsSliceOf sl vl vu vs) (pl : IsPart vl none) (pu : IsPart vu none) (ps : IsPart vs (some (-1)))
    (h : Q (.ref s.heap.objs.size) { s with heap := s.heap.push { cls := .type "tuple", data := .seq items.toList.reverse.toArray } })
    (hsz : items.size ≤ sizeLine) : wpAny (model prog w) A (getItem (.ref t) (.ref sl)) Q E s := by
  have htake : sizeOk (.seq items.toList.reverse.toArray) := by
    show items.toList.reverse.toArray.size ≤ sizeLine
    rw [List.size_toArray, List.length_reverse, Array.length_toList]
    exact hsz
  obtain ⟨os, hos, hcs, hds⟩ := id hs
  have hTs : s.TypeIs (.ref sl) "slice" := ⟨os, hos, hcs⟩
  unfold getItem
  try with_reducible refine wpAny_holding ?_
  first | refine wpAny_bind (wpAny_pure ?_) | skip
  refine wpAny_bind (wpAny_sequenceKey ht.typeIs (by decide) ?_)
  refine wpAny_bind (wpAny_callSpecial?_slot (name := Str.ofString "__getitem__") ht.typeIs PyProof.Rows.slot_tuple_getitem
    (wpAny_call_entry PyProof.Rows.slot_tuple_getitem ht.typeIs entry_tuple_getitem ?_ (args_tuple_getitem _ _)))
  show wpAny _ _ (Builtin.Tuple.tupleItemsOf (.ref t) >>= _) _ _ s
  refine wpAny_bind (tupleItemsOf_ ht ?_)
  refine wpAny_bind (wpAny_typeOf hTs ?_)
  rw [if_pos (by decide)]
  refine wpAny_bind (sliceApplied_back hs pl pu ps ?_)
  have hno : ¬ ((((items.size : Int) - 1) == 0 && (-1 : Int) == 1 && items.size == items.size) = true) := by
    intro q
    rw [Bool.and_eq_true, Bool.and_eq_true] at q
    exact absurd (eq_of_beq q.1.2) (by decide)
  show wpAny _ _ (if (((items.size : Int) - 1) == 0 && (-1 : Int) == 1 && items.size == items.size) = true then _ else _) _ _ s
  rw [if_neg hno, pick_back]
  first
    | exact wpAny_bind (m := Builtin.Tuple.tupleExact _) (wpAny_newObj_type (wpAny_pure ⟨_, rfl, wpAny_pure h⟩) htake)
    | exact wpAny_bind (m := Builtin.Tuple.tupleExact _) (wpAny_newObj_type (wpAny_bind (wpAny_pure (wpAny_pure ⟨_, rfl, wpAny_pure h⟩))) htake)
    | exact wpAny_bind (wpAny_bind (m := Builtin.Tuple.tupleExact _) (wpAny_newObj_type (wpAny_pure (wpAny_pure ⟨_, rfl, wpAny_pure h⟩)) htake))
    | exact wpAny_bind (wpAny_bind (m := Builtin.Tuple.tupleExact _) (wpAny_newObj_type (wpAny_pure ⟨_, rfl, wpAny_pure h⟩) htake))
end
def rRev (K : Fg) : V → Hp → VK → Prop := fun x H Q => (∃ a xs, x = .ref a ∧ SqL K H a xs ∧ ∀ p, H p = none → Q (.ref p) (upd H p (.lst xs.reverse))) ∨ ∃ a xs, x = .ref a ∧ SqT K H a xs ∧ ∀ p, H p = none → Q (.ref p) (upd H p (.tup xs.reverse))
section
variable {X : Cx} {B : Bs} {a ex e : Expr} {te : TE} {f : Env → Res TV} {p p2 p3 p4 q apos cpos pos : Pos} {k : Nat}
theorem pe_rev (he : PE X e te) : PE X (.Subscript e (.Slice none none (some (.UnaryOp .USub (.Constant (.int 1) k p2) p3)) p4) pos) (tU te (rRev X.K)) := by
  refine ⟨fun pins s σ H Q I h => ?_⟩
  refine Subscript_ (thn (he.run pins s σ H _ I h) fun v s1 ⟨x, H1, I1, r1, q1⟩ => ?_)
  have hst : PO X (some (.UnaryOp .USub (.Constant (.int 1) k p2) p3)) (tPart (tUn (L2.rU fun i => .int (-i)) (tC (.int 1)))) := po_some (pe_un un_neg pe_int)
  refine wpAny_Slice (thn (po_none.run pins s1 σ H1 (fun o H2 => o = none ∧ H2 = H1) I1 ⟨rfl, rfl⟩) fun vl s2 ⟨l, H2, I2, pl, el, e2⟩ => ?_)
  subst el e2
  refine thn (po_none.run pins s2 σ H2 (fun o H3 => o = none ∧ H3 = H2) I2 ⟨rfl, rfl⟩) fun vu s3 ⟨u, H3, I3, pu, eu, e3⟩ => ?_
  subst eu e3
  refine thn (hst.run pins s3 σ H3 (fun o H4 => o = some (-1) ∧ H4 = H3) I3 ⟨1, rfl, -1, rfl, rfl, rfl⟩) fun vs s4 ⟨o, H4, I4, ps, eo, e4⟩ => ?_
  subst eo e4
  have I5 : Inv X pins σ H4 { s4 with heap := s4.heap.push { cls := .type "slice", data := .fields #[vl, vu, vs] } } := I4.kept (t' := s4.toks) fun b ob q => Heap.get?_push_of_some _ q
  rcases q1 with ⟨a, xs, ex, hx, q⟩ | ⟨a, xs, ex, hx, q⟩
  · subst ex
    cases r1
    obtain ⟨its, r, ht, hz⟩ := I5.list hx
    have hlen := r.length
    show wpAny (model X.prog X.w) X.A (subscriptTail e (.Slice none none (some (.UnaryOp .USub (.Constant (.int 1) k p2) p3)) p4) (.ref a) (.ref s4.heap.objs.size)) (EP X pins σ Q) X.xe { s4 with heap := s4.heap.push { cls := .type "slice", data := .fields #[vl, vu, vs] } }
    refine tail_any (ops := [.ref a, .ref s4.heap.objs.size]) ht.isList.typeIs (PySem.slot_list_getitem.lookup) ?_ (by with_unfolding_all rfl)
    refine wpAny_getItem_list_slice ht.isList (Heap.IsSliceOf.new _ vl vu vs) pl pu ps (by decide) ?_ (by rw [List.size_toArray]; omega)
    rw [PySem.W.krv_pick]
    refine ⟨.ref _, _, I5.laid (t' := s4.toks) (o := .lst xs.reverse) (fun b ob q => Heap.get?_push_of_some _ q) (Nat.le_refl _) ?_, rfl, q _ (I5.hok.fresh (Nat.le_refl _))⟩
    exact ⟨by rw [List.length_reverse]; exact hz, _, 0, r.reverse, Heap.get?_push_size _ rfl⟩
  · subst ex
    cases r1
    obtain ⟨its, r, ht, hz⟩ := I5.tuple hx
    have hlen := r.length
    show wpAny (model X.prog X.w) X.A (subscriptTail e (.Slice none none (some (.UnaryOp .USub (.Constant (.int 1) k p2) p3)) p4) (.ref a) (.ref s4.heap.objs.size)) (EP X pins σ Q) X.xe { s4 with heap := s4.heap.push { cls := .type "slice", data := .fields #[vl, vu, vs] } }
    refine tail_any (ops := [.ref a, .ref s4.heap.objs.size]) ht.typeIs (PyProof.Rows.slot_tuple_getitem.lookup) ?_ (by with_unfolding_all rfl)
    refine getItem_tuple_back ht (Heap.IsSliceOf.new _ vl vu vs) pl pu ps ?_ (by rw [List.size_toArray]; omega)
    refine ⟨.ref _, _, I5.laid (t' := s4.toks) (o := .tup xs.reverse) (fun b ob q => Heap.get?_push_of_some _ q) (Nat.le_refl _) ?_, rfl, q _ (I5.hok.fresh (Nat.le_refl _))⟩
    exact ⟨by rw [List.length_reverse]; exact hz, _, r.reverse, IsTup.new _ _⟩
theorem RpL.reverse {K : Fg} {F : Hp} : ∀ {xs : List V} {ds : List D}, RpL K F xs ds → RpL K F xs.reverse ds.reverse
  | _, _, .nil => .nil
  | _, _, .cons h r => by
    rw [List.reverse_cons, List.reverse_cons]
    exact (RpL.reverse r).append (.cons h .nil)
theorem rd_rev (ha : PE X a (RdE X.K B f)) :
    PE X (.Subscript a (.Slice none none (some (.UnaryOp .USub (.Constant (.int 1) k p2) p3)) p4) pos) (RdE X.K B fun r => (f r).bind fun x r1 => match deref r1 x with
    | some d => .of (u1 .rev d) r1
    | none => .stuck) := by
  refine rd_un (u := .rev) (R := rRev X.K) (fun te ha => pe_rev ha) (fun x H Q ⟨F, d, t, sb, hx, e, q⟩ => ?_) ha
  unfold u1 at e
  cases d <;> simp only [reduceCtorEq] at e
  · cases e
    obtain ⟨p, xs, rfl, h1, r1⟩ := hx.lst sb
    exact .inl ⟨p, xs, rfl, SqL.of h1, fun c hc => q _ _ (.one (.lst hc (RpL.reverse r1)))⟩
  · cases e
    obtain ⟨p, xs, rfl, h1, r1⟩ := hx.tup
    exact .inr ⟨p, xs, rfl, sb.sqt h1.sqt, fun c hc => q _ _ (.one (.tup hc (RpL.reverse r1)))⟩
end
/-! list(d.items()) -/
/-- pairs tracked at their addresses -/
def putV : Hp → List Addr → List (V × V) → Hp
  | H, a :: as, p :: ps => putV (upd H a (.tup [p.1, p.2])) as ps
  | H, _, _ => H
theorem putV_off {b : Addr} : ∀ (as : List Addr) (ps : List (V × V)) (H : Hp), b ∉ as → putV H as ps b = H b
  | [], _, _, _ => rfl
  | _ :: _, [], _, _ => rfl
  | a :: as, p :: ps, H, h => by
    show putV (upd H a (.tup [p.1, p.2])) as ps b = H b
    rw [putV_off as ps _ (fun z => h (List.mem_cons_of_mem _ z)), upd_ne (fun z => h (by rw [z]; exact List.mem_cons_self))]
theorem putV_at : ∀ (as : List Addr) (ps : List (V × V)) (H : Hp), as.length = ps.length → as.Nodup → Paired (fun (t : Addr) (p : V × V) => putV H as ps t = some (.tup [p.1, p.2])) as ps
  | [], [], _, _, _ => .nil
  | [], _ :: _, _, h, _ => by cases h
  | _ :: _, [], _, h, _ => by cases h
  | a :: as, p :: ps, H, h, hn => by
    have hn' := List.nodup_cons.mp hn
    have ih := putV_at as ps (upd H a (.tup [p.1, p.2])) (Nat.succ.inj h) hn'.2
    refine .cons ?_ ih
    show putV (upd H a (.tup [p.1, p.2])) as ps a = some (.tup [p.1, p.2])
    rw [putV_off as ps _ hn'.1, upd_same]
theorem paired_mono {α β : Type} {R S : α → β → Prop} (k : ∀ a b, R a b → S a b) : ∀ {xs : List α} {ys : List β}, Paired R xs ys → Paired S xs ys
  | _, _, .nil => .nil
  | _, _, .cons h t => .cons (k _ _ h) (paired_mono k t)
def prsOf (kvs : List (List Key × V)) (bs : List Addr) : List (V × V) := (bs.map V.ref).zip (kvs.map (·.2))
def rIts : V → Hp → VK → Prop := fun x H Q => ∃ (d : Addr) (kvs : List (List Key × V)), x = .ref d ∧ Rd H d (.dT kvs) ∧
  ∀ (p : Addr) (ts bs : List Addr), H p = none → (∀ t ∈ ts, H t = none) → p ∉ ts → ts.Nodup → ts.length = kvs.length → IsKeys H kvs bs → Q (.ref p) (upd (putV H ts (prsOf kvs bs)) p (.lst (ts.map V.ref)))
section
variable {X : Cx} {B : Bs} {a ex e : Expr} {te : TE} {f : Env → Res TV} {p p2 p3 p4 q apos cpos pos : Pos} {k : Nat}
theorem paired_len {α β : Type} {R : α → β → Prop} : ∀ {xs : List α} {ys : List β}, Paired R xs ys → xs.length = ys.length
  | _, _, .nil => rfl
  | _, _, .cons _ t => congrArg Nat.succ (paired_len t)
theorem itsT_laid {pins : List (Addr × Obj)} {σ : L2.St} {H : Hp} {s : Shared} {h' : Heap} {tk : Nat} {ps : List (V × V)} {es : Array DictEntry} {acc : Array Value} {c : Nat} {as : List Addr} (I : Inv X pins σ H s) (hz : ps.length ≤ sizeLine) (sz : ps.length = es.size)
    (rel : ∀ (i : Nat) (x : V × V) (hi : i < es.size), ps[i]? = some x → RelV x.1 es[i].key ∧ RelV x.2 es[i].val)
    (hk : ∀ b o, s.heap.get? b = some o → h'.get? b = some o) (hS : h'.get? s.heap.objs.size = some { cls := .type "list", dict := none, data := .seq acc c, slots := #[] }) (hl : as.length = es.size) (hG : PySem.W.DilG es s.heap.objs.size h' as) (hacc : acc.toList = as.map Value.ref) :
    H s.heap.objs.size = none ∧ (∀ t ∈ as, H t = none) ∧ s.heap.objs.size ∉ as ∧ as.Nodup ∧ Inv X pins σ (upd (putV H as ps) s.heap.objs.size (.lst (as.map V.ref))) { s with heap := h', toks := tk } := by
  have hSn : s.heap.objs.size ∉ as := fun z => Nat.lt_irrefl _ (hG.above _ z)
  have nd : as.Nodup := List.Pairwise.imp (fun {a b} (h : a < b) => Nat.ne_of_lt h) hG.rise
  have new : ∀ t ∈ as, H t = none := fun t ht => I.hok.fresh (Nat.le_of_lt (hG.above t ht))
  have newS : H s.heap.objs.size = none := I.hok.fresh (Nat.le_refl _)
  have atP := putV_at as ps H (by omega) nd
  have off : ∀ b, b ∉ as → b ≠ s.heap.objs.size → upd (putV H as ps) s.heap.objs.size (.lst (as.map V.ref)) b = H b := fun b h1 h2 => by rw [upd_ne h2, putV_off as ps _ h1]
  have low : ∀ b o, s.heap.get? b = some o → b ∉ as ∧ b ≠ s.heap.objs.size := fun b o e => ⟨fun z => absurd (Heap.lt_size e) (Nat.not_lt.mpr (Nat.le_of_lt (hG.above b z))), Nat.ne_of_lt (Heap.lt_size e)⟩
  have kp : ∀ b u, H b = some u → upd (putV H as ps) s.heap.objs.size (.lst (as.map V.ref)) b = some u := fun b u e => by
    rw [off b (fun z => by rw [new b z] at e; cases e) (fun z => by rw [z, newS] at e; cases e)]
    exact e
  refine ⟨newS, new, hSn, nd, ?_⟩
  refine I.call' (ch := []) rfl ⟨fun b o q _ _ _ => hk b o q, fun b o q _ _ _ => ⟨o.slots, hk b o q⟩, fun b o q n _ => ?_, fun b o q _ => ⟨o, hk b o q⟩, fun b xs q => kp b _ q, fun b o u q => kp b _ q, fun b ps q => ⟨#[], by rw [kp b _ q]; simp⟩⟩ (fun b u q => ?_) I.bare fun b z => by simp at z
  · obtain ⟨z1, z2⟩ := low b o q
    rw [off b z1 z2]
    exact n
  · by_cases hb2 : b = s.heap.objs.size
    · rw [hb2] at q ⊢
      rw [upd_same] at q
      cases q
      refine ⟨by rw [List.length_map]; omega, acc.toList, c, by rw [hacc]; exact LiI.vals_refs as, ?_⟩
      rw [Array.toArray_toList]
      exact hS
    · by_cases hb : b ∈ as
      · obtain ⟨j, pk, e1, e2, e3⟩ := LiI.paired_ix atP hb
        rw [upd_ne hb2, e3] at q
        cases q
        obtain ⟨hj, f3⟩ := hG.pairs j b e1
        obtain ⟨r1, r2⟩ := rel j pk hj e2
        exact ⟨by show 2 ≤ sizeLine; decide, [es[j].key, es[j].val], .cons r1 (.cons r2 .nil), ⟨_, f3, rfl, _, rfl⟩⟩
      · rw [off b hb hb2] at q
        exact (I.hok b u q).stay (fun d v _ y => hk d v y) (fun d y => kp d _ y) fun d xs y => kp d _ y
theorem itsT_raw {pins : List (Addr × Obj)} {σ : L2.St} {H : Hp} {s : Shared} {d : Addr} {kvs : List (List Key × V)} (I : Inv X pins σ H s) (hd : Rd H d (.dT kvs)) :
    (d == sysModules) = false ∧ kvs.length ≤ sizeLine ∧ ∃ es ep bs, s.heap.DictRaw d es ep ∧ IsKeys H kvs bs ∧ bs.length = kvs.length ∧ kvs.length = es.size ∧ ∀ (i : Nat) (x : V × V) (hi : i < es.size), (prsOf kvs bs)[i]? = some x → RelV x.1 es[i].key ∧ RelV x.2 es[i].val := by
  obtain ⟨hz, nm, vs, kv, o, es, ep, e1, e2, e3, e4, _⟩ := (show ObjOk X.prog X.w H s.heap d (.dT kvs) from hd.ok I.hok)
  have lk : kvs.length = vs.length := Paired.length kv
  have sz : es.size = vs.length := by
    have := congrArg List.length e4
    rwa [Array.length_toList, List.length_map] at this
  refine ⟨nm, hz, es, ep, vs.map fun x => x.2.1, ⟨o, e1, e2, e3⟩, isKeys_of kv, by rw [List.length_map]; omega, by omega, fun i x hi e => ?_⟩
  unfold prsOf at e
  have hi2 : i < vs.length := by omega
  have hi3 : i < kvs.length := by omega
  have hx : x = (V.ref vs[i].2.1, kvs[i].2) := by
    rw [List.getElem?_eq_getElem (by rw [List.length_zip, List.length_map, List.length_map, List.length_map]; omega)] at e
    have e := Option.some.inj e
    rw [← e, List.getElem_zip, List.getElem_map, List.getElem_map, List.getElem_map]
  subst hx
  obtain ⟨w, q2, _, _, q3⟩ := LiI.paired_get kv (List.getElem?_eq_getElem hi3)
  rw [List.getElem?_eq_getElem hi2] at q2
  have q2 := Option.some.inj q2
  have q4 : es.toList[i]? = some es[i] := by rw [Array.getElem?_toList, Array.getElem?_eq_getElem hi]
  rw [e4, List.getElem?_map, List.getElem?_eq_getElem hi2] at q4
  rw [← Option.some.inj q4]
  refine ⟨rfl, ?_⟩
  rw [← q2] at q3
  exact q3
theorem pe_its (hc : X.calm = true) (hg : Gl X "list") (hm : X.mg "list" = none) (hb : baseB e = true) (hl : (apos.endLine == cpos.line) = true) (he : PE X e te) :
    PE X (.Call (.Name "list" p) [.Call (.Attribute e "items" apos) [] [] cpos] [] pos) (tU te rIts) := by
  have hs : starEach [.Call (.Attribute e "items" apos) [] [] cpos] X.env = (false, eval (.Call (.Attribute e "items" apos) [] [] cpos) X.env) :: starEach [] X.env := star_cons rfl
  refine ⟨fun pins s σ H Q I h => ?_⟩
  refine wpAny_Call_Name_kw (ld_blt I hg hm boot_listtype (PyProof.Rows.callWith_type1 ?_ hs rfl))
  rw [hs]
  refine Calls.spliced_cons (show wpAny _ _ (eval (.Call (.Attribute e "items" apos) [] [] cpos) X.env) _ _ s from ?_)
  refine wpAny_Call_method (T := "dict") (id := "dict.items") (base_ok hb) rfl hl F.plainAttrs_dict F.slot_dict_items F.type_dict_items (thn (he.run pins s σ H _ I h) fun u s1 ⟨x, H1, I1, rx, d, kvs, ex, hd, q⟩ => ?_)
  subst ex
  obtain rfl : u = Value.ref d := rx
  obtain ⟨nm, hz, es, ep, bs, raw, ik, lb, sz, rel⟩ := itsT_raw I1 hd
  have I2 : Inv X pins σ H1 { s1 with heap := s1.heap.push { cls := .type "dict_items", data := .fields #[.ref d] } } := I1.kept (t' := s1.toks) fun b ob q => Heap.get?_push_of_some _ q
  refine ⟨raw.typeIs, fun b z => ?_, (method_meetsIn F.slot_dict_items F.entry_dict_items rfl (PySem.evalArgs_none ⟨rfl, raw.typeIs, F.args_dict_items_1 _, _, meets_dict_items_raw d nm, ⟨es, ep, raw⟩, Calls.spliced_nil ?_⟩))⟩
  · obtain ⟨o, ho, hx, _⟩ := raw
    cases z
    exact ⟨o, ho, hx.2.1⟩
  have lp : (prsOf kvs bs).length = es.size := by
    unfold prsOf
    rw [List.length_zip, List.length_map, List.length_map]
    omega
  refine PySem.W.dil_call (es := es) (ep := ep) (I1.ok.hd hc) ⟨_, Heap.get?_push_size _ rfl, rfl, rfl⟩ (raw.push _) (by omega) fun h' tk acc c as hk hS hl hG hacc => ?_
  obtain ⟨k2, k3, k4, k5, J⟩ := itsT_laid (tk := tk) I2 (by omega) lp rel hk hS hl hG hacc
  exact ⟨.ref _, _, J, rfl, q _ as bs k2 k3 k4 k5 (by omega) ik⟩
/-- what comes, behind objects laid -/
inductive OutS (K : Fg) (F : Hp) : Hp → TV → V → Hp → Prop
  | here {H H' : Hp} {t : TV} {z : V} : OutG K F H t z H' → OutS K F H t z H'
  | lay {H H' : Hp} {t : TV} {z : V} {p : Addr} {o : HO} : H p = none → OutS K F (upd H p o) t z H' → OutS K F H t z H'
theorem OutS.post {K : Fg} {B : Bs} {σ : L2.St} {r : Env} {F H H' : Hp} {t : TV} {z : V} (s : StR K B F H σ r) (h : OutS K F H t z H') : ∃ F', Post K B σ r F H r F' H' ∧ TvR K H σ F' H' t z := by
  induction h with
  | here h => exact h.post s
  | @lay H H' t z p o n _ ih =>
    have p0 := laid (o := o) s n
    obtain ⟨F', p1, t1⟩ := ih p0.st
    exact ⟨F', p0.trans p1, t1.back p0.dom⟩
theorem lay_many {K : Fg} {F H' : Hp} {t : TV} {z : V} : ∀ (as : List Addr) (ps : List (V × V)) (H : Hp), as.Nodup → (∀ a ∈ as, H a = none) → OutG K F (putV H as ps) t z H' → OutS K F H t z H'
  | [], _, _, _, _, h => .here h
  | _ :: _, [], _, _, _, h => .here h
  | a :: as, p :: ps, H, nd, hn, h => .lay (hn a List.mem_cons_self) (lay_many as ps _ (List.nodup_cons.mp nd).2 (fun b hb => by
      rw [upd_ne (fun z => (List.nodup_cons.mp nd).1 (by rw [← z]; exact hb))]
      exact hn b (List.mem_cons_of_mem _ hb)) h)
theorem prs_adopt {K : Fg} {F H : Hp} : ∀ {ts : List Addr} {ks vs : List V} {ps : List (D × D)}, Sub F H → RpL K F ks (ps.map (·.1)) → RpL K F vs (ps.map (·.2)) → Paired (fun (t : Addr) (p : V × V) => H t = some (.tup [p.1, p.2])) ts (ks.zip vs) →
    ∃ G, Adopt F G H ∧ RpL K G (ts.map V.ref) (ps.map fun p => .tuple [p.1, p.2])
  | _, _, _, [], s, .nil, .nil, .nil => ⟨F, Adopt.refl _ _, .nil⟩
  | _, _, _, _ :: _, s, .cons h1 r1, .cons h2 r2, .cons hb t => by
    obtain ⟨G, a, rl⟩ := prs_adopt s r1 r2 t
    obtain ⟨G2, a2, g⟩ := adopt_one (adopt_sub s a) hb
    exact ⟨G2, a.trans a2, .cons (.tup (.inl g) (.cons (h1.mono (a.trans a2).sub) (.cons (h2.mono (a.trans a2).sub) .nil))) (rl.mono a2.sub)⟩
theorem its_inv {d : D} {t : TV} (e : u1 .its d = some t) : ∃ ps, d = .dict ((.none, .int 0) :: ps) ∧ t = .f (.list (ps.map fun p => .tuple [p.1, p.2])) := by
  cases d with
  | dict kvs =>
    cases kvs with
    | nil => cases e
    | cons q ps =>
      obtain ⟨k, v⟩ := q
      cases k with
      | none =>
        cases v with
        | int i =>
          cases i with
          | ofNat n =>
            cases n with
            | zero => exact ⟨ps, rfl, (Option.some.inj e).symm⟩
            | succ n => cases e
          | negSucc n => cases e
        | _ => cases e
      | _ => cases e
  | _ => cases e
theorem rd_its (hc : X.calm = true) (hg : Gl X "list") (hm : X.mg "list" = none) (hb : baseB a = true) (hl : (apos.endLine == cpos.line) = true) (ha : PE X a (RdE X.K B f)) :
    PE X (.Call (.Name "list" p) [.Call (.Attribute a "items" apos) [] [] cpos] [] pos) (RdE X.K B fun r => (f r).bind fun x r1 => match deref r1 x with
    | some d => .of (u1 .its d) r1
    | none => .stuck) := by
  refine PE.imp (pe_its hc hg hm hb hl ha) fun σ H Q ⟨F, r, s, tv, r', e, k⟩ => ?_
  obtain ⟨x, r1, e1, e⟩ := bind_inv e
  refine ⟨F, r, s, x, r1, e1, fun xv F1 H1 p1 t1 => ?_⟩
  split at e
  · rename_i d z
    obtain ⟨e2, rfl⟩ := of_inv e
    have hx := deref_rq p1.st t1 z
    obtain ⟨ps, kvs, a, rfl, rfl, h1, r1'⟩ : ∃ ps kvs a, tv = .f (.list (ps.map fun p => .tuple [p.1, p.2])) ∧ xv = .ref a ∧ Rd H1 a (.dT kvs) ∧ RpT X.K F1 kvs ps := by
      obtain ⟨ps, rfl, rfl⟩ := its_inv e2
      obtain ⟨a, kvs, q1, q2, q3⟩ := hx.dit p1.st.sub
      exact ⟨_, kvs, a, rfl, q1, q2, q3⟩
    refine ⟨a, kvs, rfl, h1, fun c ts bs n1 n2 n3 nd len ik => ?_⟩
    obtain ⟨G, ad, rl⟩ := keys_adopt p1.st.sub r1' ik
    have lb : bs.length = kvs.length := (paired_len ik).symm
    have hsub : Sub H1 (putV H1 ts (prsOf kvs bs)) := fun b o e => by
      rw [putV_off ts _ _ (fun z => by rw [n2 b z] at e; cases e)]
      exact e
    have ad' : Adopt F1 G (putV H1 ts (prsOf kvs bs)) := ⟨ad.sub, fun b o e => (ad.new b o e).imp id fun ⟨xs, w1, w2⟩ => ⟨xs, w1, hsub _ _ w2⟩⟩
    obtain ⟨G2, ad2, rl2⟩ := prs_adopt (K := X.K) (adopt_sub (fun b o e => hsub b o (p1.st.sub b o e)) ad') rl (r1'.snd.mono ad.sub) (putV_at ts (prsOf kvs bs) H1 (by unfold prsOf; rw [List.length_zip, List.length_map, List.length_map]; omega) nd)
    have out : OutS X.K F1 H1 (.f (.list (ps.map fun p => .tuple [p.1, p.2]))) (.ref c) (upd (putV H1 ts (prsOf kvs bs)) c (.lst (ts.map V.ref))) :=
      lay_many ts _ _ nd n2 (.ad (ad'.trans ad2) (.lst (by rw [putV_off ts _ _ n3]; exact n1) rl2))
    obtain ⟨F2, p2, t2⟩ := out.post p1.st
    exact k _ F2 _ (p1.trans p2) (t2.back p1.dom)
  · cases e
end
end Ev

end
section
set_option linter.all false
set_option maxHeartbeats 4000000
/-! A standing dict is pinned while a comprehension walks its keys. -/
namespace Ev
open PySem PySem.Spec PyProof.Rows L2
/-- one dict's object is pinned, or is so no more -/
structure Chg (F F' : Hp) : Prop where
  l : ∀ b xs, Rd F b (.lst xs) → Rd F' b (.lst xs)
  l1 : ∀ b xs, F b = some (.lst xs) → F' b = some (.lst xs)
  t : ∀ b xs, Rd F b (.tup xs) → Rd F' b (.tup xs)
  t1 : ∀ b xs, F b = some (.tup xs) → F' b = some (.tup xs)
  k : ∀ b kvs, Rd F b (.dK kvs) → Rd F' b (.dK kvs)
  d : ∀ b kvs, Rd F b (.dT kvs) → Rd F' b (.dT kvs)
mutual
theorem Rp.chg {K : Fg} {F H : Hp} (s : Chg F H) : ∀ {v : V} {d : D}, Rp K F v d → Rp K H v d
  | _, _, .non => .non
  | _, _, .bl b => .bl b
  | _, _, .int i => .int i
  | _, _, .str x => .str x
  | _, _, .lst h r => .lst (s.l1 _ _ h) (RpL.chg s r)
  | _, _, .tup h r => .tup (h.imp (s.t1 _ _) id) (RpL.chg s r)
  | _, _, .dic h r => .dic (s.k _ _ h) (RpK.chg s r)
  | _, _, .scr h r => .scr (h.imp (s.l _ _) id) (RpL.chg s r)
  | _, _, .dit h r => .dit (s.d _ _ h) (RpT.chg s r)
theorem RpL.chg {K : Fg} {F H : Hp} (s : Chg F H) : ∀ {v : List V} {d : List D}, RpL K F v d → RpL K H v d
  | _, _, .nil => .nil
  | _, _, .cons h r => .cons (Rp.chg s h) (RpL.chg s r)
theorem RpK.chg {K : Fg} {F H : Hp} (s : Chg F H) : ∀ {v : List (Key × V)} {d : List (D × D)}, RpK K F v d → RpK K H v d
  | _, _, .nil => .nil
  | _, _, .cons h r => .cons (Rp.chg s h) (RpK.chg s r)
theorem RpT.chg {K : Fg} {F H : Hp} (s : Chg F H) : ∀ {v : List (List Key × V)} {d : List (D × D)}, RpT K F v d → RpT K H v d
  | _, _, .nil => .nil
  | _, _, .cons h r => .cons (Rp.chg s h) (RpT.chg s r)
end
theorem ObR.chg {K : Fg} {F H : Hp} (s : Chg F H) {o : HO} {d : D} (h : ObR K F o d) : ObR K H o d := by
  cases d with
  | list ds => obtain ⟨xs, e, r⟩ := h; exact ⟨xs, e, r.chg s⟩
  | dict ps =>
    rcases h with ⟨kvs, e, r⟩ | ⟨kvs, qs, e0, e, r⟩
    · exact .inl ⟨kvs, e, r.chg s⟩
    · exact .inr ⟨kvs, qs, e0, e, r.chg s⟩
  | _ => exact h
/-- a dict's object -/
def DU (u : HO) : Prop := (∃ kvs, u = .dK kvs) ∨ ∃ kvs, u = .dT kvs
theorem DU.nl {u : HO} (h : DU u) (xs : List V) : u ≠ .lst xs := fun e => by
  rcases h with ⟨k, rfl⟩ | ⟨k, rfl⟩ <;> cases e
theorem DU.nt {u : HO} (h : DU u) (xs : List V) : u ≠ .tup xs := fun e => by
  rcases h with ⟨k, rfl⟩ | ⟨k, rfl⟩ <;> cases e
theorem DU.nf {u : HO} (h : DU u) (o : Obj) (w : HO) : u ≠ .frz o w := fun e => by
  rcases h with ⟨k, rfl⟩ | ⟨k, rfl⟩ <;> cases e
theorem chgU_lock {F : Hp} {a : Addr} {u : HO} {od : Obj} (du : DU u) (h : F a = some u) : Chg F (upd F a (.frz od u)) where
  l := fun b xs r => by
    rcases r with r | ⟨o, r⟩
    · exact .inl (by rw [upd_ne (fun z => by rw [z, h] at r; exact du.nl xs (Option.some.inj r))]; exact r)
    · exact .inr ⟨o, by rw [upd_ne (fun z => by rw [z, h] at r; exact du.nf _ _ (Option.some.inj r))]; exact r⟩
  l1 := fun b xs r => by rw [upd_ne (fun z => by rw [z, h] at r; exact du.nl xs (Option.some.inj r))]; exact r
  t := fun b xs r => by
    rcases r with r | ⟨o, r⟩
    · exact .inl (by rw [upd_ne (fun z => by rw [z, h] at r; exact du.nt xs (Option.some.inj r))]; exact r)
    · exact .inr ⟨o, by rw [upd_ne (fun z => by rw [z, h] at r; exact du.nf _ _ (Option.some.inj r))]; exact r⟩
  t1 := fun b xs r => by rw [upd_ne (fun z => by rw [z, h] at r; exact du.nt xs (Option.some.inj r))]; exact r
  k := fun b qs r => by
    by_cases z : b = a
    · subst z
      rcases r with r | ⟨o, r⟩
      · rw [h] at r
        have := Option.some.inj r
        subst this
        exact .inr ⟨od, upd_same⟩
      · rw [h] at r
        exact absurd (Option.some.inj r) (du.nf _ _)
    · unfold Rd at r ⊢
      rw [upd_ne z]
      exact r
  d := fun b qs r => by
    by_cases z : b = a
    · subst z
      rcases r with r | ⟨o, r⟩
      · rw [h] at r
        have := Option.some.inj r
        subst this
        exact .inr ⟨od, upd_same⟩
      · rw [h] at r
        exact absurd (Option.some.inj r) (du.nf _ _)
    · unfold Rd at r ⊢
      rw [upd_ne z]
      exact r
theorem chgU_unlock {F : Hp} {a : Addr} {u : HO} {od : Obj} (du : DU u) (h : F a = some (.frz od u)) : Chg F (upd F a u) where
  l := fun b xs r => by
    rcases r with r | ⟨o, r⟩
    · exact .inl (by rw [upd_ne (fun z => by rw [z, h] at r; cases r)]; exact r)
    · exact .inr ⟨o, by rw [upd_ne (fun z => by rw [z, h] at r; have := Option.some.inj r; injection this with _ e; exact du.nl xs e)]; exact r⟩
  l1 := fun b xs r => by rw [upd_ne (fun z => by rw [z, h] at r; cases r)]; exact r
  t := fun b xs r => by
    rcases r with r | ⟨o, r⟩
    · exact .inl (by rw [upd_ne (fun z => by rw [z, h] at r; cases r)]; exact r)
    · exact .inr ⟨o, by rw [upd_ne (fun z => by rw [z, h] at r; have := Option.some.inj r; injection this with _ e; exact du.nt xs e)]; exact r⟩
  t1 := fun b xs r => by rw [upd_ne (fun z => by rw [z, h] at r; cases r)]; exact r
  k := fun b qs r => by
    by_cases z : b = a
    · subst z
      rcases r with r | ⟨o, r⟩
      · rw [h] at r
        cases r
      · rw [h] at r
        cases r
        exact .inl upd_same
    · unfold Rd at r ⊢
      rw [upd_ne z]
      exact r
  d := fun b qs r => by
    by_cases z : b = a
    · subst z
      rcases r with r | ⟨o, r⟩
      · rw [h] at r
        cases r
      · rw [h] at r
        cases r
        exact .inl upd_same
    · unfold Rd at r ⊢
      rw [upd_ne z]
      exact r
section
variable {K : Fg} {B : Bs} {σ : L2.St} {r r' : Env} {F H F' H' : Hp} {a : Addr} {u : HO} {od : Obj}
theorem pl_du {u : HO} (du : DU u) : Pl (some u) := by
  rcases du with ⟨_, rfl⟩ | ⟨_, rfl⟩
  · exact pl_dK
  · exact pl_dT
theorem st_lockU (du : DU u) (s : StR K B F H σ r) (h : F a = some u) : StR K B (upd F a (.frz od u)) (upd H a (.frz od u)) σ r where
  sub := fun b o q => by
    by_cases z : b = a
    · subst z
      rw [upd_same] at q ⊢
      exact q
    · rw [upd_ne z] at q ⊢
      exact s.sub b o q
  dom := (s.dom.put (pl_at (s.sub a _ h) (pl_du du))).fz pl_frz
  len := s.len
  val := fun i d q => by
    obtain ⟨x, e1, e2⟩ := s.val i d q
    exact ⟨x, e1, e2.chg (chgU_lock du h)⟩
  obj := fun i d q => by
    obtain ⟨b, o, e1, e2, e3, e4⟩ := s.obj i d q
    have nb : b ≠ a := fun z => by rw [z, h] at e3; cases e3
    exact ⟨b, o, e1, by rw [upd_ne nb]; exact e2, by rw [upd_ne nb]; exact e3, e4.chg (chgU_lock du h)⟩
  new := s.new
  lnt := s.lnt
  inj := s.inj
  pin := s.pin
theorem post_unlockU (du : DU u) (h : F a = some u) (hH : H a = some u) (g : Post K B σ r (upd F a (.frz od u)) (upd H a (.frz od u)) r' F' H') : F' a = some (.frz od u) ∧ H' a = some (.frz od u) ∧ Post K B σ r F H r' (upd F' a u) (upd H' a u) := by
  have f1 : F' a = some (.frz od u) := g.mono a _ upd_same
  have h1 : H' a = some (.frz od u) := g.st.sub a _ f1
  have t := g.st
  refine ⟨f1, h1, ⟨⟨fun b o q => ?_, (t.dom.put (pl_at h1 pl_frz) (pl_du du)).fz (pl_du du), t.len, fun i d q => ?_, fun i d q => ?_, t.new, t.lnt, t.inj, t.pin⟩, fun b o q => ?_, g.frame.swap hH (pl_du du) h1 pl_frz, fun b q => ?_, fun b q => ?_, g.own⟩⟩
  · by_cases z : b = a
    · subst z
      rw [upd_same] at q ⊢
      exact q
    · rw [upd_ne z] at q ⊢
      exact t.sub b o q
  · obtain ⟨x, e1, e2⟩ := t.val i d q
    exact ⟨x, e1, e2.chg (chgU_unlock du f1)⟩
  · obtain ⟨b, o, e1, e2, e3, e4⟩ := t.obj i d q
    have nb : b ≠ a := fun z => by rw [z, f1] at e3; cases e3
    exact ⟨b, o, e1, by rw [upd_ne nb]; exact e2, by rw [upd_ne nb]; exact e3, e4.chg (chgU_unlock du f1)⟩
  · by_cases z : b = a
    · subst z
      rw [upd_same, ← h]
      exact q
    · rw [upd_ne z]
      exact g.mono b o (by rw [upd_ne z]; exact q)
  · exact dom_swap (pl_du du) g.dom b q
  · by_cases z : b = a
    · subst z
      exact .inl (by rw [h]; simp)
    · rw [upd_ne z] at q
      rcases g.fr b q with w | w | w
      · rw [upd_ne z] at w
        exact .inl w
      · refine .inr (.inl ?_)
        unfold NT at w ⊢
        rw [nT_une z, upd_ne z] at w
        exact w
      · exact .inr (.inr w)
theorem tv_unlockU (du : DU u) {v : D} {x : V} (f1 : F' a = some (.frz od u)) (t : TvR K (upd H a (.frz od u)) σ F' H' (.f v) x) : TvR K H σ (upd F' a u) (upd H' a u) (.f v) x := by
  obtain ⟨p, o, e1, e2, e3, e4, e5⟩ := t
  have np : p ≠ a := fun z => by rw [z, f1] at e3; cases e3
  rw [nT_une np] at e5
  exact ⟨p, o, e1, by rw [upd_ne np]; exact e2, by rw [upd_ne np]; exact e3, e4.chg (chgU_unlock du f1), e5⟩
end
/-! walks whose items may be tuples that are not known yet -/
structure WkG (K : Fg) (F : Hp) (J : It) (ds : List D) : Prop where
  goes : ∀ i H, i < ds.length → Sub F H → J.go i H
  stops : ∀ H, Sub F H → J.stop ds.length H
  yields : ∀ i H x H', i < ds.length → Sub F H → J.yld i H x H' → ∃ d, ds[i]? = some d ∧ (Out K F H (.d d) x H' ∨ ∃ (q : Addr) (ks : List Key), H' = H ∧ x = .ref q ∧ H q = some (.tup (ks.map kV)) ∧ d = .tuple (ks.map keyD))
theorem RpK.gt {K : Fg} {F : Hp} : ∀ {kvs : List (Key × V)} {ps : List (D × D)}, RpK K F kvs ps → ∀ (i : Nat) (k : Key) (v : V), kvs[i]? = some (k, v) → ∃ d, ps[i]? = some (keyD k, d)
  | _, _, .nil, i, k, v, e => by simp at e
  | _, _, .cons h r, 0, k, v, e => by
    simp only [List.getElem?_cons_zero, Option.some.injEq] at e
    cases e
    exact ⟨_, rfl⟩
  | _, _, .cons h r, i + 1, k, v, e => by
    simp only [List.getElem?_cons_succ] at e
    obtain ⟨d, e1⟩ := RpK.gt r i k v e
    exact ⟨d, by simpa using e1⟩
theorem RpT.gt {K : Fg} {F : Hp} : ∀ {kvs : List (List Key × V)} {ps : List (D × D)}, RpT K F kvs ps → ∀ (i : Nat) (k : List Key) (v : V), kvs[i]? = some (k, v) → ∃ d, ps[i]? = some (.tuple (k.map keyD), d)
  | _, _, .nil, i, k, v, e => by simp at e
  | _, _, .cons h r, 0, k, v, e => by
    simp only [List.getElem?_cons_zero, Option.some.injEq] at e
    cases e
    exact ⟨_, rfl⟩
  | _, _, .cons h r, i + 1, k, v, e => by
    simp only [List.getElem?_cons_succ] at e
    obtain ⟨d, e1⟩ := RpT.gt r i k v e
    exact ⟨d, by simpa using e1⟩
theorem kyRp {K : Fg} {F : Hp} (k : Key) : Rp K F (kV k) (keyD k) := by cases k <;> first | exact .int _ | exact .str _
theorem kysRp {K : Fg} {F : Hp} (k : List Key) : RpL K F (k.map kV) (k.map keyD) := RpL.of kV keyD (fun k => kyRp k) k
theorem wk_kyk {K : Fg} {F : Hp} {a : Addr} {od : Obj} {kvs : List (Key × V)} {ps : List (D × D)} (h : F a = some (.frz od (.dK kvs))) (r : RpK K F kvs ps) : WkG K F (Itk a od kvs) (ps.map (·.1)) where
  goes := fun i H hi sb => ⟨sb _ _ h, by rw [List.length_map] at hi; rw [r.length]; exact hi⟩
  stops := fun H sb => ⟨sb _ _ h, by rw [List.length_map, r.length]; exact Nat.le_refl _⟩
  yields := fun i H x H' hi sb y => by
    obtain ⟨rfl, k, v, e1, rfl⟩ := y
    obtain ⟨d, e2⟩ := r.gt i k v e1
    exact ⟨keyD k, by rw [List.getElem?_map, e2]; rfl, .inl (.same (kyRp k))⟩
theorem wk_kyt {K : Fg} {F : Hp} {a : Addr} {od : Obj} {kvs : List (List Key × V)} {ps : List (D × D)} (h : F a = some (.frz od (.dT kvs))) (r : RpT K F kvs ps) : WkG K F (Itkt a od kvs) (ps.map (·.1)) where
  goes := fun i H hi sb => ⟨sb _ _ h, by rw [List.length_map] at hi; rw [r.length]; exact hi⟩
  stops := fun H sb => ⟨sb _ _ h, by rw [List.length_map, r.length]; exact Nat.le_refl _⟩
  yields := fun i H x H' hi sb y => by
    obtain ⟨rfl, k, v, q, e1, rfl, e3⟩ := y
    obtain ⟨d, e2⟩ := r.gt i k v e1
    exact ⟨_, by rw [List.getElem?_map, e2]; rfl, .inr ⟨q, k, rfl, rfl, e3, rfl⟩⟩
theorem loop_genK {K : Fg} {B : Bs} {F0 F1 H1 : Hp} {σ : L2.St} {vs : List Nat} {D : Addr} {f : Ev.D → Env → Res (List Ev.D)} {T : V → Hp → (Hp → Prop) → Prop} {J : It} {xs ys ads : List Ev.D} {r1 rE : Env} {Qd : Hp → Prop}
    (hT : TurnOk K B σ vs D f T) (wk : WkG K F0 J xs) (sb0 : Sub F0 F1) (b0 : BlkS K B F1 H1 σ vs r1 D ads) (hc : compL f xs r1 = .ok ys rE) (hl : (ads ++ ys).length ≤ SZ)
    (fin : ∀ F' H', BlkS K B F' H' σ vs rE D (ads ++ ys) → Mv (OD σ vs r1 D) (OD σ vs rE D) F1 H1 F' H' → (∀ a, Own (wipe σ vs) (wipeE vs rE) a → Own (wipe σ vs) (wipeE vs r1) a) → Qd H') :
    ∃ W : Nat → Nat → Hp → Prop, (∃ m, W 0 m H1) ∧ ∀ i m H, W i m H → (J.stop i H ∧ Qd H) ∨ (J.go i H ∧ ∃ Nx : Hp → Prop, (∀ H', Nx H' → ∃ m', m' < m ∧ W (i + 1) m' H') ∧ ∀ x H', J.yld i H x H' → T x H' Nx) := by
  refine ⟨fun i m H => m = xs.length - i ∧ i ≤ xs.length ∧ ∃ F r as bs, BlkS K B F H σ vs r D (ads ++ as) ∧ Mv (OD σ vs r1 D) (OD σ vs r D) F1 H1 F H ∧ (∀ a, Own (wipe σ vs) (wipeE vs r) a → Own (wipe σ vs) (wipeE vs r1) a) ∧ compL f (xs.drop i) r = .ok bs rE ∧ as ++ bs = ys, ⟨xs.length, by simp, Nat.zero_le _, F1, r1, [], ys, by simpa using b0, Mv.refl, fun _ h => h, hc, rfl⟩, fun i m H => ?_⟩
  rintro ⟨rfl, hi, F, r, as, bs, bs0, mv, ow, hcl, hy⟩
  have sb : Sub F0 F := sb0.trans mv.mono
  by_cases hlt : i < xs.length
  · have hd : xs.drop i = xs[i] :: xs.drop (i + 1) := List.drop_eq_getElem_cons hlt
    rw [hd] at hcl
    obtain ⟨cs, r', ds, e1, e2, e3⟩ := compL_cons hcl
    refine .inr ⟨wk.goes i H hlt (sb.trans bs0.st.sub), fun H' => (∃ F' r' as' bs', BlkS K B F' H' σ vs r' D (ads ++ as') ∧ Mv (OD σ vs r1 D) (OD σ vs r' D) F1 H1 F' H' ∧ (∀ a, Own (wipe σ vs) (wipeE vs r') a → Own (wipe σ vs) (wipeE vs r1) a) ∧ compL f (xs.drop (i + 1)) r' = .ok bs' rE ∧ as' ++ bs' = ys),
      fun H' q => ⟨xs.length - (i + 1), by omega, rfl, hlt, q⟩, fun x H' y => ?_⟩
    obtain ⟨d, hd2, out⟩ := wk.yields i H x H' hlt (sb.trans bs0.st.sub) y
    have ed : d = xs[i] := by
      rw [List.getElem?_eq_getElem hlt] at hd2
      exact (Option.some.inj hd2).symm
    subst ed
    obtain ⟨F3, p3, t3⟩ : ∃ F3, Post K B (wipe σ vs) (wipeE vs r) F H (wipeE vs r) F3 H' ∧ Rp K F3 x xs[i] := by
      rcases out with out | ⟨q, ks, rfl, rfl, hq, e⟩
      · obtain ⟨F3, p3, t3⟩ := (out.mono sb).post bs0.st
        exact ⟨F3, p3, t3⟩
      · obtain ⟨G, ad, g⟩ := adopt_one bs0.st.sub hq
        exact ⟨G, ad.post bs0.st, by rw [e]; exact .tup (.inl g) (kysRp ks)⟩
    have nD3 : F3 D = none := by
      cases z : F3 D with
      | none => rfl
      | some u =>
        obtain ⟨acc, ha, _⟩ := bs0.acc
        rcases p3.fr D (by rw [z]; simp) with w | w | w
        · exact absurd bs0.nD w
        · exact (w.no ha fun _ z => nomatch z).elim
        · exact absurd w bs0.no
    have b3 : BlkS K B F3 H' σ vs r D (ads ++ as) := by
      obtain ⟨acc, ha, hr⟩ := bs0.acc
      exact ⟨p3.st, nD3, bs0.no, acc, p3.frame.at_ D _ ha bs0.no pl_lst, hr.mono p3.mono⟩
    have mv3 : Mv (OD σ vs r D) (OD σ vs r D) F H F3 H' := ⟨p3.mono, p3.frame.less fun a z => .inl (.inl z), p3.dom, fun a h => by
      rcases p3.fr a h with w | w | w
      · exact .inl w
      · exact .inr (.inl w)
      · exact .inr (.inr (.inl w)), fun _ h => h⟩
    refine hT F3 H' x _ r r' cs (ads ++ as) _ b3 t3 e1 ?_ fun F4 H4 b4 mv4 ow4 => ?_
    · have hh : ((ads ++ as) ++ cs).length ≤ (ads ++ ys).length := by
        rw [← hy, e3]
        simp only [List.length_append]
        omega
      exact Nat.le_trans hh hl
    · refine ⟨F4, r', as ++ cs, ds, by rw [← List.append_assoc]; exact b4, (mv.trans mv3).trans mv4, fun a h => ow a (ow4 a h), e2, ?_⟩
      rw [List.append_assoc, ← e3, hy]
  · have e : i = xs.length := by omega
    subst e
    rw [List.drop_length] at hcl
    cases hcl
    rw [List.append_nil] at hy
    subst hy
    exact .inl ⟨wk.stops H (sb.trans bs0.st.sub), fin F H bs0 mv ow⟩

section
variable {X : Cx} {B : Bs} {i : Nat}
abbrev cmkG (own : List (Str × Nat)) (t : IT) (i : Nat) (gt : Env → Res Bool) (ge : Env → Res TV) : Env → Res TV := fun r => (kysG i r).bind fun xs r1 =>
      match compL (fun x r2 => (asn t (.d x) (wipeE (own.map (·.2)) r2)).bind fun _ r3 =>
          (gt r3).bind fun ok r4 => match ok with
            | true => (ge r4).bind fun y r5 => (solidR r5 y).bind fun v r6 => .ok [v] r6
            | false => .ok [] r4) xs r1 with
      | .ok ys r2 => if ys.length ≤ SZ then .ok (.f (.list ys)) (backE r1 (own.map (·.2)) r2) else .stuck
      | _ => .stuck
theorem cmk_core {K : Fg} {F H : Hp} {σ : L2.St} {r r2 : Env} {a : Addr} {u : HO} {od : Obj} {ps : List (D × D)} {vs : List Nat} {t : IT} {gt : Env → Res Bool} {ge : Env → Res TV} {ys : List D} {Q : VK} (hsl : ∀ i ∈ slotsT t, i ∈ vs)
    (s : StR K B F H σ r) (ea : σ[i]? = some (some (.ref a))) (f1 : F a = some (.frz od u)) (rk : (∃ kvs, u = .dK kvs ∧ RpK K F kvs ps) ∨ ∃ kvs, u = .dT kvs ∧ RpT K F kvs ps)
    (ec : compL (fun x r2 => (asn t (.d x) (wipeE vs r2)).bind fun _ r3 =>
          (gt r3).bind fun ok r4 => match ok with
            | true => (ge r4).bind fun y r5 => (solidR r5 y).bind fun v r6 => .ok [v] r6
            | false => .ok [] r4) (ps.map (·.1)) r = .ok ys r2) (wl : ys.length ≤ SZ)
    (k : ∀ x F' H', Post K B σ r F H (backE r vs r2) F' H' → TvR K H σ F' H' (.f (.list ys)) x → Q x H') :
    tLc (iKeys (tVar i)) (RdG K B t) (RdC K B gt) (RdE K B ge) vs σ H Q := by
  have core : ∀ J : It, WkG K F J (ps.map (·.1)) → ∀ D, H D = none → ∃ W : Nat → Nat → Hp → Prop, (∃ m, W 0 m (upd H D (.lst []))) ∧ ∀ i m H, W i m H →
      (J.stop i H ∧ Q (.ref D) H) ∨ (J.go i H ∧ ∃ Nx : Hp → Prop, (∀ H', Nx H' → ∃ m', m' < m ∧ W (i + 1) m' H') ∧ ∀ x H', J.yld i H x H' → RdG K B t x (wipe σ vs) H' fun σ2 H2 => wipe σ2 vs = wipe σ vs ∧ RdC K B gt σ2 H2 fun b H3 =>
        if b = true then RdE K B ge σ2 H3 fun y H4 => ∃ acc, H4 D = some (.lst acc) ∧ acc.length < sizeLine ∧ Nx (upd H4 D (.lst (acc ++ [y]))) else Nx H3) := fun J wk D hD => by
    refine loop_genK (item_turn (σ := σ) (D := D) hsl) wk (Sub.refl _) (comp_start s hD) ec (by simpa using wl) fun F2 H2 b2 mv ow => ?_
    obtain ⟨p, tv⟩ := comp_end (Post.refl s) hD (by simpa using b2) mv ow
    exact k _ F2 H2 p tv
  rcases rk with ⟨kvs, rfl, rk⟩ | ⟨kvs, rfl, rk⟩
  · exact ⟨.ref a, ea, a, od, rfl, .inl ⟨kvs, s.sub _ _ f1, core _ (wk_kyk f1 rk)⟩⟩
  · exact ⟨.ref a, ea, a, od, rfl, .inr ⟨kvs, s.sub _ _ f1, core _ (wk_kyt f1 rk)⟩⟩
theorem rd_cmk {own : List (Str × Nat)} {t : IT} {gt : Env → Res Bool} {ge : Env → Res TV} (hsl : ∀ i ∈ slotsT t, i ∈ own.map (·.2)) :
    ∀ σ H Q, RdE X.K B (cmkG own t i gt ge) σ H Q → tLockE (tLc (iKeys (tVar i)) (RdG X.K B t) (RdC X.K B gt) (RdE X.K B ge) (own.map (·.2))) σ H Q ∨ tLc (iKeys (tVar i)) (RdG X.K B t) (RdC X.K B gt) (RdE X.K B ge) (own.map (·.2)) σ H Q := fun σ H Q ⟨F, r, s, tv, r', e, k⟩ => by
  obtain ⟨xs, r1, e1, e⟩ := bind_inv e
  unfold kysG at e1
  split at e1
  · rename_i d hr
    split at e1
    · rename_i ps hp
      cases e1
      split at e
      · rename_i ys r2 ec
        split at e
        · rename_i wl
          cases e
          obtain ⟨x, ea, rp⟩ := s.val i _ hr
          obtain ⟨a, rfl, hh⟩ := itemsD_inv (Sub.refl F) (Or.inl rp) hp
          have hh : ∃ u, DU u ∧ ((∃ kvs, u = .dK kvs ∧ RpK X.K F kvs ps) ∨ ∃ kvs, u = .dT kvs ∧ RpT X.K F kvs ps) ∧ (F a = some u ∨ ∃ od, F a = some (.frz od u)) := by
            rcases hh with ⟨kvs, h1, h2⟩ | ⟨kvs, h1, h2⟩
            · exact ⟨_, .inl ⟨kvs, rfl⟩, .inl ⟨kvs, rfl, h2⟩, h1⟩
            · exact ⟨_, .inr ⟨kvs, rfl⟩, .inr ⟨kvs, rfl, h2⟩, h1⟩
          obtain ⟨u, du, rk, hR | ⟨od, hR⟩⟩ := hh
          · left
            have hH := s.sub _ _ hR
            refine ⟨a, u, hH, ?_, fun od => ?_⟩
            · rcases du with ⟨kvs, rfl⟩ | ⟨kvs, rfl⟩ <;> exact True.intro
            · refine cmk_core hsl (st_lockU (od := od) du s hR) ea upd_same ?_ ec wl fun x F' H' p t => ?_
              · rcases rk with ⟨kvs, e, h⟩ | ⟨kvs, e, h⟩
                · exact .inl ⟨kvs, e, h.chg (chgU_lock du hR)⟩
                · exact .inr ⟨kvs, e, h.chg (chgU_lock du hR)⟩
              · obtain ⟨f1, h1, p2⟩ := post_unlockU du hR hH p
                exact ⟨h1, k x _ _ p2 (tv_unlockU du f1 t)⟩
          · right
            exact cmk_core hsl s ea hR rk ec wl k
        · cases e
      · cases e
    · cases e1
  · cases e1
end
end Ev

end
section
set_option linter.all false
set_option maxHeartbeats 4000000
/-! Calls that may raise; a lambda handed to a def that calls it and tells what came. -/
namespace Ev
open PySem PySem.Spec PyProof.Rows L2
theorem nxb_inv {α β : Type} {m : Res α} {f : α → Env → Res β} {o : Res β} (h : (nx m).bind f = o) (ho : o ≠ .stuck) : ∃ a r, m = .ok a r ∧ f a r = o := by
  cases m with
  | ok a r => exact ⟨a, r, rfl, h⟩
  | exc c d r => exact absurd h.symm ho
  | stuck => exact absurd h.symm ho
section
variable {X : Cx} {B : Bs} {V : WX} {pos : Pos} {e c : Expr}
/-! what is called may raise -/
def RdEX (K : Fg) (mg : Str → Option Value) (B : Bs) (V : WX) (g : Env → Res TV) : TE := fun σ H Q => ∃ F r, StR K B F H σ r ∧ match g r with
  | .ok t r' => ∀ x F' H', Post K B σ r F H r' F' H' → TvR K H σ F' H' t x → Q x H'
  | .exc c _ r' => ∀ cls dd F' H', mg c = some cls → Post K B σ r F H r' F' H' → V cls dd σ H'
  | .stuck => False
theorem rd_callX {lv : Nat} {ad : Addr} {fd : FuncData} {ps : List Str} {cf : List Sl → CR} {x : Str} {p : Pos} {e0 : Expr} {es : List Expr} {fa : Env → Res (List Ar)} (Fn : FnOk X.prog X.w X.K X.mg X.base (L2.CX X.prog X.w) lv ad fd ps (spOf X.K X.mg B.t true cf)) (hr : Room lv X.A)
    (hg : Gl X x) (hm : X.mg x = some (.ref ad)) (hk : PySem.W.keepIn X.K (.ref ad) = true) (hb : Binds X.K fd ps []) (tk : Takes X V) (hpl : (e0 :: es).all plainE = true) (hdb : (x == ("__debug__" : Str)) = false) (ha : PA X (e0 :: es) (RdR X.K B fa)) (call : Nat → List Sl → CR) (fi : Nat) (hc : call fi = cf) :
    PE X (.Call (.Name x p) (e0 :: es) [] pos) (RdEX X.K X.mg B V fun r => (nx (fa r)).bind fun as r1 => doCall call fi as r1) := by
  rw [List.all_cons, Bool.and_eq_true] at hpl
  refine PE.imp (pe_callSD (E := WE V) (dvs := []) (ds := []) Fn hr hg hm hk hb .nil (fun σ => passAt tk σ) ha hdb (star_cons hpl.1) (star_any hpl.2)) fun σ H Q ⟨F, r, s, k⟩ => ?_
  dsimp only at k
  cases e1 : fa r with
  | exc c d r' => rw [e1] at k; exact k.elim
  | stuck => rw [e1] at k; exact k.elim
  | ok as r1 =>
    rw [e1] at k
    refine ⟨F, r, s, as, r1, e1, fun xs F1 H1 p1 h1 => ?_⟩
    show spOf X.K X.mg B.t true cf (xs ++ []) H1 Q _
    rw [List.append_nil]
    have k : match doCall call fi as r1 with
      | .ok t r' => ∀ x F' H', Post X.K B σ r F H r' F' H' → TvR X.K H σ F' H' t x → Q x H'
      | .exc c _ r' => ∀ cls dd F' H', X.mg c = some cls → Post X.K B σ r F H r' F' H' → V cls dd σ H'
      | .stuck => False := k
    unfold doCall at k
    split at k
    · rename_i tv r' e
      split at e
      · cases e
      · rename_i ss hss
        split at e
        · rename_i nd
          rw [hc] at e
          split at e
          · rename_i nw v outs hcf
            split at e
            · rename_i r2 ho
              cases e
              obtain ⟨a1, a2, a3, a4⟩ := args_of p1.st h1 hss
              refine ⟨F1, ss, p1.st.sub, a1, lent_nodup p1.st h1 hss nd, ⟨p1.st.dom.tb, p1.st.dom.nt⟩, .inl ⟨nw, v, outs, hcf, fun y F2 H2 cp => ?_⟩⟩
              obtain ⟨p2, t2⟩ := call_post p1.st a3 nd a4 cp ho
              exact k y F2 H2 (p1.trans p2) (t2.back p1.dom)
            · cases e
          · split at e <;> cases e
          · cases e
        · cases e
    · rename_i cl d r' e
      split at e
      · cases e
      · rename_i ss hss
        split at e
        · rename_i nd
          rw [hc] at e
          split at e
          · split at e <;> cases e
          · rename_i hcf
            split at e
            · rename_i hl
              cases e
              obtain ⟨a1, a2, a3, a4⟩ := args_of p1.st h1 hss
              have ln : lentA xs ss = [] := by
                rw [hl] at a3
                exact List.map_eq_nil_iff.mp a3
              refine ⟨F1, ss, p1.st.sub, a1, lent_nodup p1.st h1 hss nd, ⟨p1.st.dom.tb, p1.st.dom.nt⟩, .inr ⟨rfl, _, _, hcf, ln, fun cls dd F2 H2 hcc cp => ?_⟩⟩
              obtain ⟨p2, t2⟩ := call_post (r2 := r1) p1.st (L := []) rfl List.nodup_nil (fun i h => nomatch h) cp rfl
              exact k cls dd F2 H2 hcc (p1.trans p2)
            · cases e
          · cases e
        · cases e
    · exact k.elim
end
/-- only the tables are others -/
theorem st_ext {K : Fg} {B : Bs} {F H H1 : Hp} {σ : L2.St} {r : Env} (s : StR K B F H σ r) (e : LamX.ExtN H H1) (t : LamX.Tabs B.t H1) : Post K B σ r F H r F H1 := by
  have dm : ∀ a, nT H a ≠ none → nT H1 a ≠ none := fun a q => by
    cases z : nT H a with
    | none => exact absurd z q
    | some o =>
      have nt : ∀ ps, o ≠ .tbl ps := fun ps w => nT_nt H a ps (by rw [z, w])
      exact nT_ne (e a o (nT_sub H a o z) nt) nt
  refine ⟨⟨fun a o q => e a o (s.sub a o q) fun ps w => s.dom.nt a ps (by rw [q, w]), ⟨fun a q => dm a (s.dom.at_ a q), t, s.dom.nt⟩, s.len, s.val, fun i d q => ?_, s.new, s.lnt, s.inj, s.pin⟩, Sub.refl _, ⟨fun a o h _ nt => e a o h nt⟩, dm, fun a q => .inl q, fun _ q => q⟩
  obtain ⟨a, o, e1, e2, e3, e4⟩ := s.obj i d q
  exact ⟨a, o, e1, e a o e2 fun ps z => (pl_ob e4).1 ps (by rw [z]), e3, e4⟩
/-- what the catcher makes of the value -/
def okQ (k : Cat) (Q : VK) : VK := fun x H => match k.ok with
  | some (.str w) => Q (.str w) H
  | some _ => False
  | none => ∀ p, H p = none → Q (.ref p) (upd H p (.tup [.str "told", x]))
/-- the catcher's promise -/
def TTc (mg : Str → Option Value) (k : Cat) : (XK → Hp → VK → Prop) → Hp → VK → Prop := fun tl H Q =>
  tl (fun cls _ H' => ∃ c w, mg c = some cls ∧ k.tbl.lookup c = some (.str w) ∧ Q (.str w) H') H (okQ k Q)
/-- the catcher's words are texts -/
def strD : D → Bool
  | .str _ => true
  | _ => false
def catOk (k : Cat) : Bool := (match k.ok with
  | none => true
  | some d => strD d) && k.tbl.all fun p => strD p.2
theorem strD_of {d : D} (h : strD d = true) : ∃ w, d = .str w := by
  cases d <;> first | exact ⟨_, rfl⟩ | (exact absurd h (by decide)) | cases h
/-- x is a def that calls what it gets and tells what came -/
def CatK (P : Program) (w : World) (K : Fg) (mg : Str → Option Value) (base : Heap) (k : Cat) (x : Str) : Prop :=
  ∃ (a : Str) (g : Addr) (pg : Arguments) (bg : List Stmt) (sg : Scope) (dV kV doc pm cdv ct oc : Value) (an od : Option Addr) (osl : Array (Option Value)) (Ng : List Str),
    mg x = some (.ref g) ∧ PySem.W.keepIn K (.ref g) = true ∧ K.lookup g = some ⟨oc, od, .func (PySem.W.fnOf x x pg bg sg dV kV doc pm an cdv ct), osl⟩ ∧ PySem.W.codeIn K cdv x = true ∧
    L2.Binds K (PySem.W.fnOf x x pg bg sg dV kV doc pm an cdv ct) [a] [] ∧ FnScope Ng [a] sg ∧ Ng[0]? = some a ∧ Vis sg a ∧ (a == ("__debug__" : Str)) = false ∧ (a == ("__classdict__" : Str)) = false ∧ catOk k = true ∧
    ∀ (X : Cx), X.prog = P → X.w = w → X.K = K → X.mg = mg → X.base = base → ∀ q, LamX.GivesTo X Ng x sg g cdv bg a q (TTc mg k)
section
variable {X : Cx} {B : Bs}
theorem rd_lamc {k : Cat} {x : Str} {params : Arguments} {scope : Scope} {body : Expr} {p lpos pos : Pos} {cA P : Addr} {lv : Nat} {g : Env → Res TV} (hc : CatK X.prog X.w X.K X.mg X.base k x) (hg : Gl X x) (hdb : (x == ("__debug__" : Str)) = false)
    (TB : LamX.TabB X.base X.mg cA P) (hcode : X.env.code = .ref cA) (hmT : (P, X.env.qual ++ "<lambda>") ∈ B.t) (hu : ∀ p ∈ B.t, p.1 = P → p.2 = X.env.qual ++ "<lambda>") (hr : Room (lv + 2) X.A) (L : LamX.LamS X.env.scope scope) (hdef : defaultsOf params X.env = ([], []))
    (hbind : ∀ (q : Str) (cl : List (Str × Addr)) (pm cv ctv : Value), bindArgs (PySem.W.kla_fn "<lambda>" q params body scope cl pm cv ctv) ⟨[], []⟩ = pure [])
    (hbody : ∀ (A : Around) (outer : List PySem.Env) (s : Shared) (H : Hp) (E : XK) (f c' : Addr), Room lv (A.deeper (LamX.lamEnv X scope s.heap.objs.size f c')) → PE (LamX.lamCx X A outer s H E scope f c') body (RdEX X.K X.mg B (fun cls d _ H' => E cls d H') g)) :
    PE X (.Call (.Name x p) [.Lambda params body scope lpos] [] pos) (RdE X.K B fun r => (catR k ((g r).bind fun x r2 => solidR r2 x)).bind fun v r2 => .ok (.d v) r2) := by
  obtain ⟨a, gd, pg, bg, sg, dV, kV, doc, pm, cdv, ct, oc, an, od, osl, Ng, h1, h2, h3, h4, h5, h6, h7, h8, h9, h10, hk, h11⟩ := hc
  refine PE.imp (LamX.pe_lamcall (T := B.t) (TT := TTc X.mg k) (t := fun E => RdEX X.K X.mg B (fun cls d _ H' => E cls d H') g) hg h1 h2 h3 h4 h5 h6 h7 h8 (h11 X rfl rfl rfl rfl rfl _) TB hcode hmT hu hr L hdef hbind hbody hdb h9 h10)
    fun σ H Q ⟨F, r, s, t, r', e, c⟩ => ⟨s.dom.tb, fun H1 eN T1 => ?_⟩
  have p0 := st_ext s eN T1
  refine ⟨F, r, p0.st, ?_⟩
  dsimp only at e ⊢
  unfold catOk at hk
  rw [Bool.and_eq_true] at hk
  cases eg : g r with
  | stuck => rw [eg] at e; cases e
  | exc cl d r1 =>
    rw [eg] at e
    intro cls dd F' H' hcl pp
    have e : ((match k.tbl.lookup cl with
      | some v => Res.ok v r1
      | none => Res.stuck) : Res D).bind (fun v r2 => Res.ok (TV.d v) r2) = .ok t r' := e
    cases hl : k.tbl.lookup cl with
    | none => rw [hl] at e; cases e
    | some v =>
      rw [hl] at e
      cases e
      obtain ⟨w, rfl⟩ := strD_of (List.all_eq_true.mp hk.2 _ (PySem.mem_of_lookup hl))
      exact ⟨cl, w, hcl, hl, c _ F' H' (p0.trans pp) (.str w)⟩
  | ok x r1 =>
    rw [eg] at e
    intro xv F' H' pp tv
    have e : (catR k (solidR r1 x)).bind (fun v r2 => Res.ok (TV.d v) r2) = .ok t r' := e
    cases es : solidR r1 x with
    | stuck => rw [es] at e; cases e
    | exc cl d r2 =>
      unfold solidR at es
      split at es <;> cases es
    | ok v r2 =>
      rw [es] at e
      obtain ⟨F2, p2, h2, _⟩ := solid_post p0.st pp tv (solidR_ok es)
      have e : Res.ok (TV.d (k.ok.getD (.tuple [.str "told", v]))) r2 = .ok t r' := e
      cases e
      unfold okQ
      cases ko : k.ok with
      | none =>
        intro p hp
        rw [ko] at c
        obtain ⟨F3, p3, t3⟩ := (Out.tup (K := X.K) hp (.cons (.str "told") (.cons h2 .nil))).post p2.st
        exact c _ F3 _ ((p0.trans p2).trans p3) (t3.back fun a q => p2.dom a (p0.dom a q))
      | some d =>
        rw [ko] at c hk
        obtain ⟨w, rfl⟩ := strD_of hk.1
        exact c _ F2 _ (p0.trans p2) (.str w)
end
end Ev

end
section
set_option linter.all false
set_option maxHeartbeats 4000000
/-! A look at a text's tree beside the evaluator's. -/
namespace Ev
open PySem PySem.Spec PyProof.Rows L2
/-- what is known of the names: slots, defs, free built-ins, globals -/
structure Ck where
  N : List Str
  fl : List Str
  bs : List Str
  gl : List (Str × D)
  /-- the defs that may raise; the classes of exceptions; the catchers -/
  ex : List Nat := []
  cs : List Str := []
  ca : List (Str × Cat) := []
def encS (p : Str × D) : D × D := (.str p.1, p.2)
mutual
def beqD : D → D → Bool
  | .none, .none => true
  | .bool a, .bool b => a == b
  | .int a, .int b => a == b
  | .str a, .str b => a == b
  | .tuple l, .tuple m => beqDs l m
  | .list l, .list m => beqDs l m
  | .dict l, .dict m => beqDp l m
  | _, _ => false
def beqDs : List D → List D → Bool
  | [], [] => true
  | a :: l, b :: m => beqD a b && beqDs l m
  | _, _ => false
def beqDp : List (D × D) → List (D × D) → Bool
  | [], [] => true
  | (a, x) :: l, (b, y) :: m => beqD a b && (beqD x y && beqDp l m)
  | _, _ => false
end
mutual
theorem beqD_ok : ∀ {a b : D}, beqD a b = true → a = b
  | .none, b, h => by cases b <;> first | rfl | (simp [beqD] at h)
  | .bool a, b, h => by cases b <;> simp [beqD] at h; subst h; rfl
  | .int a, b, h => by cases b <;> simp [beqD] at h; subst h; rfl
  | .str a, b, h => by cases b <;> simp [beqD] at h; subst h; rfl
  | .tuple l, b, h => by
    cases b <;> simp [beqD] at h
    rw [beqDs_ok h]
  | .list l, b, h => by
    cases b <;> simp [beqD] at h
    rw [beqDs_ok h]
  | .dict l, b, h => by
    cases b <;> simp [beqD] at h
    rw [beqDp_ok h]
theorem beqDs_ok : ∀ {a b : List D}, beqDs a b = true → a = b
  | [], b, h => by cases b <;> first | rfl | (simp [beqDs] at h)
  | a :: l, b, h => by
    cases b with
    | nil => simp [beqDs] at h
    | cons b m =>
      simp only [beqDs, Bool.and_eq_true] at h
      rw [beqD_ok h.1, beqDs_ok h.2]
theorem beqDp_ok : ∀ {a b : List (D × D)}, beqDp a b = true → a = b
  | [], b, h => by cases b <;> first | rfl | (simp [beqDp] at h)
  | (a, x) :: l, b, h => by
    cases b with
    | nil => simp [beqDp] at h
    | cons b m =>
      obtain ⟨b, y⟩ := b
      simp only [beqDp, Bool.and_eq_true] at h
      rw [beqD_ok h.1, beqD_ok h.2.1, beqDp_ok h.2.2]
end
def glIs (gl : List (Str × D)) (x : Str) (d : D) : Bool := match gl.lookup x with
  | some e => beqD e d
  | none => false
theorem glIs_ok {gl : List (Str × D)} {x : Str} {d : D} (h : glIs gl x d = true) : gl.lookup x = some d := by
  unfold glIs at h
  split at h
  · rename_i e he
    rw [he, beqD_ok h]
  · cases h
def visB (sc : Scope) (x : Str) : Bool := match sc.names.lookup x with
  | some .local => true
  | some .cell => true
  | some .free => true
  | _ => false
def locB (sc : Scope) (x : Str) : Bool := match sc.names.lookup x with
  | some .local => true
  | some .cell => true
  | _ => false
def isLoc (sc : Scope) (x : Str) : Bool := match sc.names.lookup x with
  | some .local => true
  | _ => false
def glB (sc : Scope) (x : Str) : Bool := match sc.names.lookup x with
  | some .globalImplicit => true
  | _ => false
def dbgB (x : Str) : Bool := !(x == ("__debug__" : Str)) && !(x == ("__classdict__" : Str))
def slotB (c : Ck) (i : Nat) (x : Str) : Bool := match c.N[i]? with
  | some y => y == x
  | none => false
def nameB (c : Ck) (i : Nat) (sc : Scope) : Expr → Bool
  | .Name x _ => slotB c i x && (visB sc x && dbgB x)
  | _ => false
def freeB (c : Ck) (sc : Scope) (x y : Str) : Bool := (x == y) && (c.bs.contains x && glB sc x)
def notSet : Expr → Bool
  | .Set _ _ _ => false
  | _ => true
def plainIxB : Expr → Bool
  | .Slice _ _ _ _ => false
  | _ => true
def cstEq : Const → Const → Bool
  | .none, .none => true
  | .bool a, .bool b => a == b
  | .int a, .int b => a == b
  | .str a, .str b => a == b
  | _, _ => false
def blkB (N : List Str) (sc scope : Scope) (own : List (Str × Nat)) : Bool :=
  decide (scope.kind = .function) && (scope.names.all (fun y => decide (scope.names.lookup y.1 = some y.2)) && (own.all (fun p => decide (N[p.2]? = some p.1)) &&
    (scope.names.all (fun y => !decide (y.2 = .free) || (decide (sc.names.lookup y.1 = some .cell) || decide (sc.names.lookup y.1 = some .free))) &&
    scope.names.all (fun y => !(decide (y.2 = .local) || decide (y.2 = .cell)) || ((own.map (·.1)).contains y.1 || !N.contains y.1)))))
mutual
def chG (c : Ck) (fnB : Str → Bool) (sc : Scope) : IT → Expr → Bool
  | .n i m, e => match e with
    | .Name x _ => !m && (slotB c i x && (locB sc x && (fnB x || isLoc sc x)))
    | _ => false
  | .t l, e => match e with
    | .Tuple es _ _ => es.all plainE && ((es.length == l.length) && chGs c fnB sc l es)
    | _ => false
def chGs (c : Ck) (fnB : Str → Bool) (sc : Scope) : List IT → List Expr → Bool
  | [], [] => true
  | t :: ts, e :: es => chG c fnB sc t e && chGs c fnB sc ts es
  | _, _ => false
end
abbrev cfn (scope : Scope) : Str → Bool := fun x => scope.names.lookup x == some .cell
/-- one catcher is the other -/
def catEq (a b : Cat) : Bool := (match a.ok, b.ok with
  | none, none => true
  | some x, some y => beqD x y
  | _, _ => false) && beqDp (a.tbl.map encS) (b.tbl.map encS)
theorem encSl_inj : ∀ {a b : List (Str × D)}, a.map encS = b.map encS → a = b
  | [], [], _ => rfl
  | [], _ :: _, h => nomatch h
  | _ :: _, [], h => nomatch h
  | (x, u) :: a, (y, v) :: b, h => by
    simp only [List.map_cons, List.cons.injEq, encS, Prod.mk.injEq, PyData.str.injEq] at h
    obtain ⟨⟨rfl, rfl⟩, h⟩ := h
    rw [encSl_inj h]
theorem catEq_ok {a b : Cat} (h : catEq a b = true) : a = b := by
  obtain ⟨o1, t1⟩ := a
  obtain ⟨o2, t2⟩ := b
  unfold catEq at h
  rw [Bool.and_eq_true] at h
  obtain ⟨h1, h2⟩ := h
  have e2 := encSl_inj (beqDp_ok h2)
  dsimp only at e2 h1
  subst e2
  split at h1
  · subst_vars; rfl
  · rw [beqD_ok h1]
  · cases h1
/-- a lambda has no parameters -/
def noPar : Arguments → Bool
  | ⟨[], [], none, [], [], none, []⟩ => true
  | _ => false
theorem noPar_ok {a : Arguments} (h : noPar a = true) : a = ⟨[], [], none, [], [], none, []⟩ := by
  unfold noPar at h
  split at h
  · rfl
  · cases h
mutual
def chE (c : Ck) : Scope → IE → Expr → Bool
  | sc, .cst d, e => match e with
    | .Constant d' _ _ => cstEq d d'
    | _ => false
  | sc, .var i, e => match e with
    | .Name x _ => slotB c i x && (visB sc x && dbgB x)
    | _ => false
  | sc, .glob y d, e => match e with
    | .Name x _ => (x == y) && (glB sc x && (dbgB x && (glIs c.gl x d && notDict d)))
    | _ => false
  | sc, .bin o a b, e => match e with
    | .BinOp l op r _ => decide (op = opB o) && (chE c sc a l && chE c sc b r)
    | _ => false
  | sc, .neg a, e => match e with
    | .UnaryOp .USub x _ => chE c sc a x
    | _ => false
  | sc, .cmp o a b, e => match e with
    | .Compare l [op] [r] _ => decide (op = opC o) && (!behindInMarks (opC o) r && (chE c sc a l && chE c sc b r))
    | _ => false
  | sc, .chn o p a b d, e => match e with
    | .Compare l [op, op'] [r, q] _ => decide (op = opC o) && (decide (op' = opC p) && (!lastMarks [opC o, opC p] [r, q] && (chE c sc a l && (chE c sc b r && chE c sc d q))))
    | _ => false
  | sc, .not a, e => match e with
    | .UnaryOp .Not x _ => chE c sc a x
    | _ => false
  | sc, .and a b, e => match e with
    | .BoolOp .And (e1 :: rest) pos => chE c sc a e1 && (match rest with
      | [] => false
      | [e2] => chE c sc b e2
      | e2 :: e3 :: r => chE c sc b (.BoolOp .And (e2 :: e3 :: r) pos))
    | _ => false
  | sc, .or a b, e => match e with
    | .BoolOp .Or (e1 :: rest) pos => chE c sc a e1 && (match rest with
      | [] => false
      | [e2] => chE c sc b e2
      | e2 :: e3 :: r => chE c sc b (.BoolOp .Or (e2 :: e3 :: r) pos))
    | _ => false
  | sc, .ife t a b, e => match e with
    | .IfExp t' a' b' _ => chE c sc t t' && (chE c sc a a' && chE c sc b b')
    | _ => false
  | sc, .tup l, e => match e with
    | .Tuple es _ _ => chA c sc l es
    | _ => false
  | sc, .lst l, e => match e with
    | .List es _ => chA c sc l es
    | _ => false
  | sc, .idx a i, e => match e with
    | .Subscript x y _ => plainIxB y && (chE c sc a x && chE c sc i y)
    | _ => false
  | sc, .slc a lo hi, e => match e with
    | .Subscript x (.Slice l h none _) _ => chE c sc a x && (chO c sc lo l && chO c sc hi h)
    | _ => false
  | sc, .isi a t, e => match e with
    | .Call (.Name f _) [x, .Name y _] [] _ => freeB c sc f "isinstance" && (freeB c sc y (tyN t) && (plainE x && chE c sc a x))
    | _ => false
  | sc, .call f y l, e => match e with
    | .Call (.Name x _) es [] _ => (match c.fl[f]? with
      | some z => z == x
      | none => false) && (glB sc x && (dbgB x && (es.all plainE && chR c sc l es)))
    | _ => false
  | sc, .lamc k _ f _ l, e => match e with
    | .Call (.Name x _) [.Lambda params (.Call (.Name y _) (e0 :: es) [] _) scope _] [] _ => (match c.ca.lookup x with
      | some k' => catEq k' k
      | none => false) && (glB sc x && (dbgB x && (LamX.lamSB sc scope && (noPar params && ((match c.fl[f]? with
      | some z => z == y
      | none => false) && (c.ex.contains f && (glB scope y && (dbgB y && ((e0 :: es).all plainE && chR { c with ca := [] } scope l (e0 :: es))))))))))
    | _ => false
  | sc, .bl1 b a, e => match e with
    | .Call (.Name f _) [x] [] _ => freeB c sc f (b1N b) && (plainE x && chE c sc a x)
    | _ => false
  | sc, .un u a, e => match u with
    | .srt => match e with
      | .Call (.Name f _) [x] [] _ => freeB c sc f "sorted" && (plainE x && chE c sc a x)
      | _ => false
    | .sst => match e with
      | .Call (.Name f _) [.Call (.Name g _) [x] [] _] [] _ => freeB c sc f "sorted" && (freeB c sc g "set" && (plainE x && chE c sc a x))
      | _ => false
    | .lvs => match e with
      | .Call (.Name f _) [.Call (.Attribute x m ap) [] [] cp] [] _ => freeB c sc f "list" && ((m == ("values" : Str)) && (baseB x && ((ap.endLine == cp.line) && chE c sc a x)))
      | _ => false
    | .dcp => match e with
      | .Call (.Name f _) [x] [] _ => freeB c sc f "dict" && (plainE x && chE c sc a x)
      | _ => false
    | .dks => match e with
      | .Call (.Name f _) [x] [] _ => freeB c sc f "dict" && (plainE x && chE c sc a x)
      | _ => false
    | .dts => match e with
      | .Call (.Name f _) [x] [] _ => freeB c sc f "dict" && (plainE x && chE c sc a x)
      | _ => false
    | .lks => match e with
      | .Call (.Name f _) [x] [] _ => freeB c sc f "list" && (plainE x && chE c sc a x)
      | _ => false
    | .lrg => match e with
      | .Call (.Name f _) [.Call (.Name g _) [x] [] _] [] _ => freeB c sc f "list" && (freeB c sc g "range" && (plainE x && chE c sc a x))
      | _ => false
    | .lns => match e with
      | .Call (.Name f _) [.Call (.Name g _) [x] [] _] [] _ => freeB c sc f "len" && (freeB c sc g "set" && (plainE x && chE c sc a x))
      | _ => false
    | .rev => match e with
      | .Subscript x (.Slice none none (some (.UnaryOp .USub (.Constant (.int i) _ _) _)) _) _ => decide (i = 1) && chE c sc a x
      | _ => false
    | .its => match e with
      | .Call (.Name f _) [.Call (.Attribute x m ap) [] [] cp] [] _ => freeB c sc f "list" && ((m == ("items" : Str)) && (baseB x && ((ap.endLine == cp.line) && chE c sc a x)))
      | _ => false
  | sc, .bl2 b a d, e => match e with
    | .Call (.Name f _) [x, y] [] _ => freeB c sc f (b2N b) && (plainE x && (plainE y && (chE c sc a x && chE c sc d y)))
    | _ => false
  | sc, .ixo a k, e => match e with
    | .Call (.Attribute x m ap) [y] [] cp => (m == ("index" : Str)) && (baseB x && (plainE y && ((ap.endLine == cp.line) && (chE c sc a x && chE c sc k y))))
    | _ => false
  | sc, .dsp ks l, e => match e with
    | .Dict keys vs _ => chP c sc ks l keys vs
    | _ => false
  | sc, .mg1 o k, e => match e with
    | .Call (.Attribute x m ap) [y] [] cp => (m == ("get" : Str)) && (baseB x && (plainE y && ((ap.endLine == cp.line) && (chE c sc o x && chE c sc k y))))
    | _ => false
  | sc, .mg2 o k d, e => match e with
    | .Call (.Attribute x m ap) [y, z] [] cp => (m == ("get" : Str)) && (baseB x && (plainE y && (plainE z && ((ap.endLine == cp.line) && (chE c sc o x && (chE c sc k y && chE c sc d z))))))
    | _ => false
  | sc, .kg2 y ps k d, e => match e with
    | .Call (.Attribute (.Name x _) m ap) [u, v] [] cp => (x == y) && ((m == ("get" : Str)) && (glB sc x && (dbgB x && (glIs c.gl x (.dict (ps.map encS)) && (plainE u && (plainE v && ((ap.endLine == cp.line) && (chE c sc k u && chE c sc d v))))))))
    | _ => false
  | sc, .emp _, e => match e with
    | .Dict [] [] _ => true
    | _ => false
  | sc, .dt1 l v, e => match e with
    | .Dict [some (.Tuple es _ _)] [x] _ => chA c sc l es && chE c sc v x
    | _ => false
  | sc, .din n k d, e => match e with
    | .Compare x [op] [y] _ => decide (op = (if n = true then .NotIn else .In)) && (!behindInMarks op y && (chE c sc k x && chE c sc d y))
    | _ => false
  | sc, .dix d k, e => match e with
    | .Subscript x y _ => plainIxB y && (chE c sc d x && chE c sc k y)
    | _ => false
  | sc, .sdk d k v, e => match e with
    | .Dict [none, some y] [x, z] _ => chE c sc d x && (chE c sc k y && chE c sc v z)
    | _ => false
  | sc, .tin n l d, e => match e with
    | .Compare (.Tuple es _ _) [op] [y] _ => decide (op = (if n = true then .NotIn else .In)) && (!behindInMarks op y && (chA c sc l es && chE c sc d y))
    | _ => false
  | sc, .tix d l, e => match e with
    | .Subscript x (.Tuple es _ _) _ => chE c sc d x && chA c sc l es
    | _ => false
  | sc, .tg1 d l, e => match e with
    | .Call (.Attribute x m ap) [.Tuple es _ _] [] cp => (m == ("get" : Str)) && (baseB x && ((ap.endLine == cp.line) && (chE c sc d x && chA c sc l es)))
    | _ => false
  | sc, .tg2 d l v, e => match e with
    | .Call (.Attribute x m ap) [.Tuple es _ _, z] [] cp => (m == ("get" : Str)) && (baseB x && (plainE z && ((ap.endLine == cp.line) && (chE c sc d x && (chA c sc l es && chE c sc v z)))))
    | _ => false
  | sc, .sdt d l v, e => match e with
    | .Dict [none, some (.Tuple es _ _)] [x, z] _ => chE c sc d x && (chA c sc l es && chE c sc v z)
    | _ => false
  | sc, .sdv d k v, e => match e with
    | .Dict [none, some y] [x, z] _ => chE c sc d x && (chE c sc k y && chE c sc v z)
    | _ => false
  | sc, .sd2 a b, e => match e with
    | .Dict [none, none] [x, y] _ => chE c sc a x && chE c sc b y
    | _ => false
  | sc, .pop i, e => match e with
    | .Call (.Attribute (.Name x _) m ap) [] [] cp => (m == ("pop" : Str)) && (slotB c i x && (visB sc x && (dbgB x && (ap.endLine == cp.line))))
    | _ => false
  | sc, .cm1 own elt t it cn, e => match e with
    | .ListComp elt' [g] scope _ => (g.is_async == 0) && (notSet g.iter && (chI c sc it g.target g.iter && (blkB c.N sc scope own && (chG c (cfn scope) (relS scope sc) t g.target && (chT c (relS scope sc) cn g.ifs && (chE c (relS scope sc) elt elt' &&
        (slotsT t).all (fun i => (own.map (·.2)).contains i)))))))
    | _ => false
  | sc, .cmo own elt t i cn, e => match e with
    | .ListComp elt' [g] scope _ => (g.is_async == 0) && (notSet g.iter && (nameB c i sc g.iter && (blkB c.N sc scope own && (chG c (cfn scope) (relS scope sc) t g.target && (chT c (relS scope sc) cn g.ifs && (chE c (relS scope sc) elt elt' &&
        (slotsT t).all (fun i => (own.map (·.2)).contains i)))))))
    | _ => false
  | sc, .cmk own elt t i cn, e => match e with
    | .ListComp elt' [g] scope _ => (g.is_async == 0) && (notSet g.iter && (nameB c i sc g.iter && (blkB c.N sc scope own && (chG c (cfn scope) (relS scope sc) t g.target && (chT c (relS scope sc) cn g.ifs && (chE c (relS scope sc) elt elt' &&
        (slotsT t).all (fun i => (own.map (·.2)).contains i)))))))
    | _ => false
  | sc, .cm2 own own2 elt t it cn t2 it2 cn2, e => match e with
    | .ListComp elt' [g, g2] scope _ => (g.is_async == 0) && (notSet g.iter && (chI c sc it g.target g.iter && (blkB c.N sc scope own && (chG c (cfn scope) (relS scope sc) t g.target && (chT c (relS scope sc) cn g.ifs && (chE c (relS scope sc) elt elt' &&
        ((slotsT t).all (fun i => (own.map (·.2)).contains i) && ((g2.is_async == 0) && (notSet g2.iter && (chI c (relS scope sc) it2 g2.target g2.iter && (chG c (cfn scope) (relS scope sc) t2 g2.target && (chT c (relS scope sc) cn2 g2.ifs &&
        ((slotsT t2).all (fun i => own2.contains i) && own2.all (fun i => (own.map (·.2)).contains i))))))))))))))
    | _ => false
def chA (c : Ck) : Scope → IA → List Expr → Bool
  | sc, .nil, es => match es with
    | [] => true
    | _ => false
  | sc, .cons a l, es => match es with
    | e :: r => plainE e && (chE c sc a e && chA c sc l r)
    | _ => false
  | _, .lend _ _, _ => false
def chR (c : Ck) : Scope → IA → List Expr → Bool
  | sc, .nil, es => match es with
    | [] => true
    | _ => false
  | sc, .cons a l, es => match es with
    | e :: r => plainE e && (chE c sc a e && chR c sc l r)
    | _ => false
  | sc, .lend i l, es => match es with
    | .Name x _ :: r => slotB c i x && (visB sc x && (dbgB x && chR c sc l r))
    | _ => false
def chP (c : Ck) : Scope → List Const → IA → List (Option Expr) → List Expr → Bool
  | sc, k :: ks, .cons a l, some (.Constant k' _ _) :: r, e :: es => keyCB k && (cstEq k k' && (chE c sc a e && chP c sc ks l r es))
  | sc, .int i :: ks, .cons a l, some (.UnaryOp .USub (.Constant (.int j) _ _) _) :: r, e :: es => decide (i = -j) && (chE c sc a e && chP c sc ks l r es)
  | sc, [], .nil, [], [] => true
  | _, _, _, _, _ => false
def chO (c : Ck) : Scope → IO → Option Expr → Bool
  | sc, .no, e => match e with
    | none => true
    | _ => false
  | sc, .yes a, e => match e with
    | some x => chE c sc a x
    | _ => false
def chT (c : Ck) : Scope → IO → List Expr → Bool
  | sc, .no, e => match e with
    | [] => true
    | _ => false
  | sc, .yes a, e => match e with
    | [x] => chE c sc a x
    | _ => false
def chI (c : Ck) : Scope → II → Expr → Expr → Bool
  | sc, .val a, tg, e => chE c sc a e
  | sc, .rg1 a, tg, e => match e with
    | .Call (.Name f _) [x] [] _ => freeB c sc f "range" && (plainE x && chE c sc a x)
    | _ => false
  | sc, .rg2 a b, tg, e => match e with
    | .Call (.Name f _) [x, y] [] _ => freeB c sc f "range" && (plainE x && (plainE y && (chE c sc a x && chE c sc b y)))
    | _ => false
  | sc, .enm a, tg, e => match tg, e with
    | .Tuple _ _ _, .Call (.Name f _) [x] [] _ => freeB c sc f "enumerate" && (plainE x && chE c sc a x)
    | _, _ => false
  | sc, .zip a b, tg, e => match tg, e with
    | .Tuple _ _ _, .Call (.Name f _) [x, y] [] _ => freeB c sc f "zip" && (plainE x && (plainE y && (chE c sc a x && chE c sc b y)))
    | _, _ => false
  | sc, .zp3 a b d, tg, e => match tg, e with
    | .Tuple _ _ _, .Call (.Name f _) [x, y, z] [] _ => freeB c sc f "zip" && (plainE x && (plainE y && (plainE z && (chE c sc a x && (chE c sc b y && chE c sc d z)))))
    | _, _ => false
end
end Ev

end
section
set_option linter.all false
set_option maxHeartbeats 4000000
namespace Ev
open PySem PySem.Spec PyProof.Rows L2
def FnC (X : Cx) (tl : List (Addr × Str)) (ex : Bool) (call : Nat → List Sl → CR) (i : Nat) (x : Str) : Prop :=
  ∃ (k : Nat) (ad : Addr) (fd : FuncData) (ps : List Str), FnOk X.prog X.w X.K X.mg X.base (L2.CX X.prog X.w) k ad fd ps (spOf X.K X.mg tl ex (call i)) ∧ Room k X.A ∧ X.mg x = some (.ref ad) ∧ PySem.W.keepIn X.K (.ref ad) = true ∧ Binds X.K fd ps []
/-- what a constant of the text is -/
def GlD (K : Fg) (w : World) (mg : Str → Option Value) (x : Str) (d : D) : Prop := (notDict d = true → ∃ (u : Value) (v : V), mg x = some u ∧ RelV v u ∧ Rp K (fun _ => none) v d) ∧
  ∀ ps : List (Str × D), d = .dict (ps.map encS) → ∃ a, mg x = some (.ref a) ∧ KDc K w a ps
def GlC (X : Cx) (x : Str) (d : D) : Prop := GlD X.K X.w X.mg x d
/-- what a frame needs that makes lambdas: its code object and its table, room for two frames more, the defs' promises there, the catchers -/
structure LamF (tl : List (Addr × Str)) (c : Ck) (call : Nat → List Sl → CR) (X : Cx) : Prop where
  ex : ∃ (cA P : Addr) (k : Nat), LamX.TabB X.base X.mg cA P ∧ X.env.code = .ref cA ∧ (P, X.env.qual ++ "<lambda>") ∈ tl ∧ (∀ p ∈ tl, p.1 = P → p.2 = X.env.qual ++ "<lambda>") ∧ Room (k + 2) X.A ∧
    ∀ (i : Nat) (x : Str), c.fl[i]? = some x → ∀ Y : Cx, Y.prog = X.prog → Y.w = X.w → Y.K = X.K → Y.mg = X.mg → Y.base = X.base → Room k Y.A → FnC Y tl (c.ex.contains i) call i x
  cat : ∀ (x : Str) (k : Cat), c.ca.lookup x = some k → CatK X.prog X.w X.K X.mg X.base k x
/-- what a frame's context must have -/
structure Ct (tl : List (Addr × Str)) (c : Ck) (call : Nat → List Sl → CR) (sc : Scope) (fnB : Str → Bool) (X : Cx) : Prop where
  N : X.N = c.N
  nd : c.N.Nodup
  calm : X.calm = true
  un : X.A.units + 65 < cLine
  bs : ∀ x ∈ c.bs, X.mg x = none
  fn : ∀ (i : Nat) (x : Str), c.fl[i]? = some x → FnC X tl (c.ex.contains i) call i x
  gl : ∀ (x : Str) (d : D), c.gl.lookup x = some d → GlC X x d
  sc : X.env.scope = sc
  fnb : ∀ x, fnB x = true → X.fn x = true
  lam : c.ca ≠ [] → LamF tl c call X
theorem Ct.blk {tl : List (Addr × Str)} {c : Ck} {call : Nat → List Sl → CR} {sc : Scope} {fnB : Str → Bool} {X : Cx} (h : Ct tl c call sc fnB X) (s : Shared) (H : Hp) (scope : Scope) (cl : List (Str × Addr)) (C : Addr) (fp : List Addr) :
    Ct tl c call (relS scope sc) (cfn scope) (X.blk s H scope (compEnvC scope cl C X.env) fp) where
  N := h.N
  nd := h.nd
  calm := h.calm
  un := h.un
  bs := h.bs
  fn := h.fn
  gl := h.gl
  sc := by
    have e := h.sc
    subst e
    rfl
  fnb := fun x hx => hx
  lam := fun n => ⟨(h.lam n).ex, (h.lam n).cat⟩
theorem slotB_ok {c : Ck} {i : Nat} {x : Str} (h : slotB c i x = true) : c.N[i]? = some x := by
  unfold slotB at h
  split at h
  · rename_i y hy
    rw [hy, eq_of_beq h]
  · cases h
theorem visB_ok {sc : Scope} {x : Str} (h : visB sc x = true) : Vis sc x := by
  unfold visB at h
  split at h
  · rename_i e; exact .inl e
  · rename_i e; exact .inr (.inl e)
  · rename_i e; exact .inr (.inr e)
  · cases h
theorem locB_ok {sc : Scope} {x : Str} (h : locB sc x = true) : Loc sc x := by
  unfold locB at h
  split at h
  · rename_i e; exact .inl e
  · rename_i e; exact .inr e
  · cases h
theorem isLoc_ok {sc : Scope} {x : Str} (h : isLoc sc x = true) : sc.names.lookup x = some .local := by
  unfold isLoc at h
  split at h
  · assumption
  · cases h
theorem glB_ok {X : Cx} {sc : Scope} {x : Str} (e : X.env.scope = sc) (h : glB sc x = true) : Gl X x := by
  unfold glB at h
  split at h
  · rename_i q
    subst e
    exact q
  · cases h
theorem dbgB_ok {x : Str} (h : dbgB x = true) : (x == ("__debug__" : Str)) = false ∧ (x == ("__classdict__" : Str)) = false := by
  unfold dbgB at h
  simpa using h
theorem freeB_ok {tl : List (Addr × Str)} {c : Ck} {call : Nat → List Sl → CR} {sc : Scope} {fnB : Str → Bool} {X : Cx} (ct : Ct tl c call sc fnB X) {x y : Str} (h : freeB c sc x y = true) : x = y ∧ X.mg y = none ∧ Gl X y := by
  unfold freeB at h
  rw [Bool.and_eq_true, Bool.and_eq_true] at h
  have e := eq_of_beq h.1
  subst e
  exact ⟨rfl, ct.bs _ (by simpa using h.2.1), glB_ok ct.sc h.2.2⟩
theorem cstEq_ok {a b : Const} (h : cstEq a b = true) : a = b := by
  cases a <;> cases b <;> simp [cstEq] at h <;> first | rfl | (subst h; rfl)
/-- is the test of it the truth of its value? -/
def plainT : Expr → Bool
  | .UnaryOp .Not _ _ => false
  | .BoolOp _ _ _ => false
  | .IfExp _ _ _ _ => false
  | .Compare _ _ _ _ => false
  | _ => true
theorem plainT_ok {e : Expr} {env : PySem.Env} (h : plainT e = true) : ∀ whole, isTrue e env whole = (do let v ← whole; standAt e.pos; holding [v] (truthy v)) := by
  intro whole
  cases e with
  | UnaryOp op x p =>
    cases op with
    | Not => simp [plainT] at h
    | _ => rfl
  | BoolOp => simp [plainT] at h
  | IfExp => simp [plainT] at h
  | Compare => simp [plainT] at h
  | _ => rfl
def Tri (X : Cx) (B : Bs) (ex : Expr) (p : (Env → Res TV) × (Env → Res Bool)) : Prop :=
  PE X ex (RdE X.K B p.1) ∧ PT X ex (RdC X.K B p.2) ∧ ((∃ op l q, ex = .BoolOp op l q) → PW X ex (RdC X.K B p.2))
theorem tri {X : Cx} {B : Bs} {ex : Expr} {f : Env → Res TV} (h : PE X ex (RdE X.K B f)) (hp : plainT ex = true) : Tri X B ex (tst f) :=
  ⟨h, rd_tst (plainT_ok hp) h, fun ⟨op, l, q, e⟩ => by subst e; simp [plainT] at hp⟩
theorem folded_ok {e : Expr} {env : PySem.Env} (h : notSet e = true) : ∀ x, foldedSetIterable e env x = pure x := by
  intro x
  cases e <;> first | rfl | (simp [notSet] at h)
theorem plainIx_ok {e : Expr} (h : plainIxB e = true) : PlainIx e := by
  intro o i
  cases e <;> first | rfl | (simp [plainIxB] at h)
theorem blkB_ok {N : List Str} {sc scope : Scope} {own : List (Str × Nat)} (h : blkB N sc scope own = true) : BlkOk N sc scope own := by
  unfold blkB at h
  simp only [Bool.and_eq_true, List.all_eq_true, decide_eq_true_eq, Bool.or_eq_true, Bool.not_eq_true', decide_eq_false_iff_not, List.contains_iff_mem] at h
  obtain ⟨h1, h2, h3, h4, h5⟩ := h
  refine ⟨h1, h2, h3, fun y hy e => ?_, fun y hy e => ?_⟩
  · rcases h4 y hy with z | z
    · exact absurd e z
    · exact z
  · rcases h5 y hy with z | z
    · simp only [Bool.or_eq_false_iff, decide_eq_false_iff_not] at z
      rcases e with e | e
      · exact absurd e z.1
      · exact absurd e z.2
    · rcases z with z | z
      · exact .inl z
      · exact .inr (by simpa using z)
theorem sub_ok {l m : List Nat} (h : (l.all fun i => m.contains i) = true) : ∀ i ∈ l, i ∈ m := by
  intro i hi
  rw [List.all_eq_true] at h
  simpa using h i hi
section
variable {c : Ck} {call : Nat → List Sl → CR} {fnB : Str → Bool}
mutual
theorem okG {sc : Scope} {X : Cx} {B : Bs} (ct : Ct B.t c call sc fnB X) : ∀ (t : IT) (ex : Expr), chG c fnB sc t ex = true → PG X ex (RdG X.K B t)
  | .n i m, ex, h => by
    unfold chG at h
    split at h
    · rename_i x p
      simp only [Bool.and_eq_true, Bool.not_eq_true', Bool.or_eq_true] at h
      obtain ⟨h1, h2, h3, h4⟩ := h
      subst h1
      refine rg_name (ct.N ▸ ct.nd) (ct.N ▸ slotB_ok h2) (ct.sc ▸ locB_ok h3) ?_
      rcases h4 with h4 | h4
      · exact .inl (ct.fnb _ h4)
      · exact .inr (ct.sc ▸ isLoc_ok h4)
    · cases h
  | .t l, ex, h => by
    unfold chG at h
    split at h
    · rename_i es k p
      simp only [Bool.and_eq_true] at h
      obtain ⟨h1, h2, h3⟩ := h
      exact rg_tup ct.calm h1 (eq_of_beq h2) (okGs ct l es h3 h1)
    · cases h
theorem okGs {sc : Scope} {X : Cx} {B : Bs} (ct : Ct B.t c call sc fnB X) : ∀ (t : List IT) (es : List Expr), chGs c fnB sc t es = true → es.all plainE = true → PGs X es (RdGs X.K B t)
  | [], [], _, _ => rgs_nil
  | [], _ :: _, h, _ => by simp [chGs] at h
  | _ :: _, [], h, _ => by simp [chGs] at h
  | t :: ts, e :: es, h, hp => by
    simp only [chGs, Bool.and_eq_true] at h
    rw [List.all_cons, Bool.and_eq_true] at hp
    exact rgs_cons hp.1 (okG ct t e h.1) (okGs ct ts es h.2 hp.2)
end
end
def OkE (c : Ck) (call : Nat → List Sl → CR) (e : IE) : Prop := ∀ (sc : Scope) (fnB : Str → Bool) (X : Cx) (B : Bs) (ex : Expr), Ct B.t c call sc fnB X → chE c sc e ex = true → Tri X B ex (ev call e)
def OkA (c : Ck) (call : Nat → List Sl → CR) (l : IA) : Prop := ∀ (sc : Scope) (fnB : Str → Bool) (X : Cx) (B : Bs) (es : List Expr), Ct B.t c call sc fnB X → chA c sc l es = true → PA X es (RdA X.K B (evA call l))
def OkR (c : Ck) (call : Nat → List Sl → CR) (l : IA) : Prop := ∀ (sc : Scope) (fnB : Str → Bool) (X : Cx) (B : Bs) (es : List Expr), Ct B.t c call sc fnB X → chR c sc l es = true → PA X es (RdR X.K B (evR call l)) ∧ (es = [] → evR call l = fun r => .ok [] r)
def OkP (c : Ck) (call : Nat → List Sl → CR) (l : IA) : Prop := ∀ (sc : Scope) (fnB : Str → Bool) (X : Cx) (B : Bs) (ks : List Const) (keys : List (Option Expr)) (es : List Expr), Ct B.t c call sc fnB X → chP c sc ks l keys es = true → ∃ trs, PV X B call keys es ks l trs
def OkO (c : Ck) (call : Nat → List Sl → CR) (l : IO) : Prop := ∀ (sc : Scope) (fnB : Str → Bool) (X : Cx) (B : Bs) (e : Option Expr), Ct B.t c call sc fnB X → chO c sc l e = true → PO X e (RdO X.K B (evO call l))
def OkT (c : Ck) (call : Nat → List Sl → CR) (l : IO) : Prop := ∀ (sc : Scope) (fnB : Str → Bool) (X : Cx) (B : Bs) (es : List Expr), Ct B.t c call sc fnB X → chT c sc l es = true → PTs X es (RdC X.K B (evT call l))
def OkI (c : Ck) (call : Nat → List Sl → CR) (l : II) : Prop := ∀ (sc : Scope) (fnB : Str → Bool) (X : Cx) (B : Bs) (tg e : Expr), Ct B.t c call sc fnB X → chI c sc l tg e = true → PI X tg e (RdI X.K B (evI call l))
theorem rd_const {X : Cx} {B : Bs} {v : V} {d : D} {ex : Expr} (h : PE X ex (tC v)) (hr : ∀ F, Rp X.K F v d) : PE X ex (RdE X.K B fun r => .ok (.d d) r) :=
  PE.imp h fun σ H Q ⟨F, r, s, t, r', e, k⟩ => by
    cases e
    exact k v F H (Post.refl s) (hr F)
section
variable {c : Ck} {call : Nat → List Sl → CR}
theorem ok_cst (d : Const) : OkE c call (.cst d) := fun sc fnB X B ex ct h => by
  unfold chE at h
  split at h
  · rename_i d' k p
    have e := cstEq_ok h
    subst e
    cases d with
    | none => exact tri (rd_const pe_non fun F => .non) rfl
    | bool b => exact tri (rd_const pe_bl fun F => .bl b) rfl
    | int i => exact tri (rd_const pe_int fun F => .int i) rfl
    | str s => exact tri (rd_const pe_str fun F => .str s) rfl
    | _ => simp [cstEq] at h
  · cases h
theorem ok_var (i : Nat) : OkE c call (.var i) := fun sc fnB X B ex ct h => by
  unfold chE at h
  split at h
  · rename_i x p
    simp only [Bool.and_eq_true] at h
    obtain ⟨h1, h2, h3⟩ := h
    obtain ⟨d1, d2⟩ := dbgB_ok h3
    exact tri (rd_var (ct.N ▸ slotB_ok h1) (ct.sc ▸ visB_ok h2) d1 d2 call) rfl
  · cases h
theorem ok_glob (y : Str) (d : D) : OkE c call (.glob y d) := fun sc fnB X B ex ct h => by
  unfold chE at h
  split at h
  · rename_i x p
    simp only [Bool.and_eq_true] at h
    obtain ⟨h1, h2, h3, h4, h5⟩ := h
    have e := eq_of_beq h1
    subst e
    obtain ⟨u, v, g1, g2, g3⟩ := (ct.gl _ _ (glIs_ok h4)).1 h5
    exact tri (rd_const (pe_glob (glB_ok ct.sc h2) g1 g2 (dbgB_ok h3).1) fun F => g3.mono fun a o q => by cases q) rfl
  · cases h
theorem ok_bin (o : Bo) {a b : IE} (ha : OkE c call a) (hb : OkE c call b) : OkE c call (.bin o a b) := fun sc fnB X B ex ct h => by
  unfold chE at h
  split at h
  · rename_i l op r p
    simp only [Bool.and_eq_true, decide_eq_true_eq] at h
    obtain ⟨h1, h2, h3⟩ := h
    subst h1
    exact tri (rd_bin o (ha sc fnB X B l ct h2).1 (hb sc fnB X B r ct h3).1) rfl
  · cases h
theorem ok_neg {a : IE} (ha : OkE c call a) : OkE c call (.neg a) := fun sc fnB X B ex ct h => by
  unfold chE at h
  split at h
  · rename_i x p
    exact tri (rd_neg (ha sc fnB X B x ct h).1) rfl
  · cases h
theorem ok_cmp (o : Co) {a b : IE} (ha : OkE c call a) (hb : OkE c call b) : OkE c call (.cmp o a b) := fun sc fnB X B ex ct h => by
  unfold chE at h
  split at h
  · rename_i l op r p
    simp only [Bool.and_eq_true, decide_eq_true_eq, Bool.not_eq_true'] at h
    obtain ⟨h1, h2, h3, h4⟩ := h
    subst h1
    exact ⟨rd_cmp ct.un o h2 (ha sc fnB X B l ct h3).1 (hb sc fnB X B r ct h4).1, rd_cmpT ct.un o h2 (ha sc fnB X B l ct h3).1 (hb sc fnB X B r ct h4).1, fun ⟨_, _, _, e⟩ => by cases e⟩
  · cases h
theorem ok_chn (o p : Co) {a b d : IE} (ha : OkE c call a) (hb : OkE c call b) (hd : OkE c call d) : OkE c call (.chn o p a b d) := fun sc fnB X B ex ct h => by
  unfold chE at h
  split at h
  · rename_i l op op' r q pos
    simp only [Bool.and_eq_true, decide_eq_true_eq, Bool.not_eq_true'] at h
    obtain ⟨h1, h2, h3, h4, h5, h6⟩ := h
    subst h1 h2
    exact ⟨rd_chn ct.un o p h3 (ha sc fnB X B l ct h4).1 (hb sc fnB X B r ct h5).1 (hd sc fnB X B q ct h6).1, rd_chnT ct.un o p h3 (ha sc fnB X B l ct h4).1 (hb sc fnB X B r ct h5).1 (hd sc fnB X B q ct h6).1, fun ⟨_, _, _, e⟩ => by cases e⟩
  · cases h
theorem not_tst {X : Cx} {B : Bs} {a : Expr} {pos : Pos} {f : Env → Res TV} (h : PE X a (RdE X.K B f)) : PE X (.UnaryOp .Not a pos) (RdE X.K B fun r => ((tst f).2 r).bind fun t r1 => .ok (.d (.bool (!t))) r1) := rd_not h
theorem ok_not {a : IE} (ha : OkE c call a) : OkE c call (.not a) := fun sc fnB X B ex ct h => by
  unfold chE at h
  split at h
  · rename_i x p
    obtain ⟨h1, h2, _⟩ := ha sc fnB X B x ct h
    exact ⟨rd_not h1, rd_notT h2, fun ⟨_, _, _, e⟩ => by cases e⟩
  · cases h
theorem ok_and {a b : IE} (ha : OkE c call a) (hb : OkE c call b) : OkE c call (.and a b) := fun sc fnB X B ex ct h => by
  unfold chE at h
  split at h
  · rename_i e1 rest pos
    rw [Bool.and_eq_true] at h
    obtain ⟨h1, h2⟩ := h
    obtain ⟨a1, a2, _⟩ := ha sc fnB X B e1 ct h1
    split at h2
    · cases h2
    · rename_i e2
      obtain ⟨b1, b2, _⟩ := hb sc fnB X B e2 ct h2
      have w := rd_andC a2 (pos := pos) (pw_and1 b2)
      exact ⟨rd_andE a1 (rd_one b1), w.pt, fun _ => w⟩
    · rename_i e2 e3 r
      obtain ⟨b1, b2, b3⟩ := hb sc fnB X B _ ct h2
      have w := rd_andC a2 (b3 ⟨_, _, _, rfl⟩)
      exact ⟨rd_andE a1 b1, w.pt, fun _ => w⟩
  · cases h
theorem ok_or {a b : IE} (ha : OkE c call a) (hb : OkE c call b) : OkE c call (.or a b) := fun sc fnB X B ex ct h => by
  unfold chE at h
  split at h
  · rename_i e1 rest pos
    rw [Bool.and_eq_true] at h
    obtain ⟨h1, h2⟩ := h
    obtain ⟨a1, a2, _⟩ := ha sc fnB X B e1 ct h1
    split at h2
    · cases h2
    · rename_i e2
      obtain ⟨b1, b2, _⟩ := hb sc fnB X B e2 ct h2
      have w := rd_orC a2 (pos := pos) (pw_or1 b2)
      exact ⟨rd_orE a1 (rd_one b1), w.pt, fun _ => w⟩
    · rename_i e2 e3 r
      obtain ⟨b1, b2, b3⟩ := hb sc fnB X B _ ct h2
      have w := rd_orC a2 (b3 ⟨_, _, _, rfl⟩)
      exact ⟨rd_orE a1 b1, w.pt, fun _ => w⟩
  · cases h
theorem ok_ife {t a b : IE} (ht : OkE c call t) (ha : OkE c call a) (hb : OkE c call b) : OkE c call (.ife t a b) := fun sc fnB X B ex ct h => by
  unfold chE at h
  split at h
  · rename_i t' a' b' pos
    simp only [Bool.and_eq_true] at h
    obtain ⟨h1, h2, h3⟩ := h
    obtain ⟨_, t2, _⟩ := ht sc fnB X B t' ct h1
    obtain ⟨a1, a2, _⟩ := ha sc fnB X B a' ct h2
    obtain ⟨b1, b2, _⟩ := hb sc fnB X B b' ct h3
    exact ⟨rd_ifeE t2 a1 b1, rd_ifeC t2 a2 b2, fun ⟨_, _, _, e⟩ => by cases e⟩
  · cases h
theorem ok_tup {l : IA} (hl : OkA c call l) : OkE c call (.tup l) := fun sc fnB X B ex ct h => by
  unfold chE at h
  split at h
  · exact tri (rd_tup (hl sc fnB X B _ ct h)) rfl
  · cases h
theorem ok_lst {l : IA} (hl : OkA c call l) : OkE c call (.lst l) := fun sc fnB X B ex ct h => by
  unfold chE at h
  split at h
  · exact tri (rd_lst (hl sc fnB X B _ ct h)) rfl
  · cases h
theorem ok_idx {a b : IE} (ha : OkE c call a) (hb : OkE c call b) : OkE c call (.idx a b) := fun sc fnB X B ex ct h => by
  unfold chE at h
  split at h
  · rename_i x y p
    simp only [Bool.and_eq_true] at h
    obtain ⟨h1, h2, h3⟩ := h
    exact tri (rd_idx (plainIx_ok h1) (ha sc fnB X B x ct h2).1 (hb sc fnB X B y ct h3).1) rfl
  · cases h
theorem ok_slc {a : IE} {lo hi : IO} (ha : OkE c call a) (hl : OkO c call lo) (hh : OkO c call hi) : OkE c call (.slc a lo hi) := fun sc fnB X B ex ct h => by
  unfold chE at h
  split at h
  · rename_i x l hh' p2 p
    simp only [Bool.and_eq_true] at h
    obtain ⟨h1, h2, h3⟩ := h
    exact tri (rd_slc (ha sc fnB X B x ct h1).1 (hl sc fnB X B _ ct h2) (hh sc fnB X B _ ct h3)) rfl
  · cases h
theorem ok_isi {a : IE} (t : Ty) (ha : OkE c call a) : OkE c call (.isi a t) := fun sc fnB X B ex ct h => by
  unfold chE at h
  split at h
  · rename_i f p1 x y p2 p3
    simp only [Bool.and_eq_true] at h
    obtain ⟨h1, h2, h3, h4⟩ := h
    obtain ⟨rfl, m1, g1⟩ := freeB_ok ct h1
    obtain ⟨rfl, m2, g2⟩ := freeB_ok ct h2
    exact tri (rd_isi g1 m1 g2 m2 h3 (ha sc fnB X B x ct h4).1) rfl
  · cases h
theorem ok_call {l : IA} (f : Nat) (y : Str) (hl : OkR c call l) : OkE c call (.call f y l) := fun sc fnB X B ex ct h => by
  unfold chE at h
  split at h
  · rename_i x p1 es p2
    simp only [Bool.and_eq_true] at h
    obtain ⟨h1, h2, h3, h4, h5⟩ := h
    split at h1
    · rename_i z hz
      have e := eq_of_beq h1
      subst e
      obtain ⟨k, ad, fd, ps, F, hr, hm, hk, hb⟩ := ct.fn f _ hz
      obtain ⟨r1, r2⟩ := hl sc fnB X B es ct h5
      exact tri (rd_call F hr (glB_ok ct.sc h2) hm hk hb (fun _ _ _ _ _ _ _ q => (quietX _ _ _ _ _ _ _ q).elim) h4 (dbgB_ok h3).1 r1 r2 call f rfl) rfl
    · cases h1
  · cases h
theorem lam_form (k : Cat) (l : IA) (f : Nat) : (fun r => (catR k (((nx (evR call l r)).bind fun as r1 => doCall call f as r1).bind fun x r2 => solidR r2 x)).bind fun v r2 => Res.ok (TV.d v) r2) =
    fun r => (nx (evR call l r)).bind fun as r1 => (catR k ((doCall call f as r1).bind fun x r2 => solidR r2 x)).bind fun v r2 => .ok (.d v) r2 := by
  funext r
  cases evR call l r <;> rfl
theorem ok_lamc {l : IA} (k : Cat) (g : Str) (f : Nat) (y : Str) (hl : OkR { c with ca := [] } call l) : OkE c call (.lamc k g f y l) := fun sc fnB X B ex ct h => by
  unfold chE at h
  split at h
  · rename_i x p1 params y' p2 e0 es p3 scope p4 p5
    simp only [Bool.and_eq_true] at h
    obtain ⟨h1, h2, h3, h4, h5, h6, h7, h8, h9, h10, h11⟩ := h
    split at h1
    · rename_i k' hk'
      have e1 := catEq_ok h1
      rw [e1] at hk'
      split at h6
      · rename_i z hz
        have e := eq_of_beq h6
        subst e
        obtain rfl := noPar_ok h5
        have lf := ct.lam fun w => by rw [w] at hk'; cases hk'
        obtain ⟨cA, P, lv, TB, hcode, hmT, hu, hr, hfn⟩ := lf.ex
        refine tri (f := fun r => (nx (evR call l r)).bind fun as r1 => (catR k ((doCall call f as r1).bind fun x r2 => solidR r2 x)).bind fun v r2 => .ok (.d v) r2) ?_ rfl
        rw [← lam_form]
        refine rd_lamc (g := fun r => (nx (evR call l r)).bind fun as r1 => doCall call f as r1) (lf.cat x _ hk') (glB_ok ct.sc h2) (dbgB_ok h3).1 TB hcode hmT hu hr (LamX.lamS_by (ct.sc ▸ h4)) rfl (fun _ _ _ _ _ => rfl) fun A outer s H E fa c' hr2 => ?_
        have ct2 : Ct B.t { c with ca := [] } call scope (fun _ => false) (LamX.lamCx X A outer s H E scope fa c') :=
          ⟨ct.N, ct.nd, rfl, (by have := hr2.un; show (A.deeper _).units + 65 < cLine; omega), ct.bs, fun i x hx => hfn i x hx _ rfl rfl rfl rfl rfl hr2, ct.gl, rfl, fun _ z => (nomatch z), fun z => absurd rfl z⟩
        obtain ⟨n, ad, fd, ps, F, hr3, hm, hkp, hb⟩ := hfn f _ hz (LamX.lamCx X A outer s H E scope fa c') rfl rfl rfl rfl rfl hr2
        rw [h7] at F
        have hgy : Gl (LamX.lamCx X A outer s H E scope fa c') z := glB_ok rfl h8
        exact rd_callX (V := fun cls d _ H' => E cls d H') F hr3 hgy hm hkp hb (takes_of (E := E) rfl rfl rfl rfl) h10 (dbgB_ok h9).1 (hl scope _ _ B _ ct2 h11).1 call f rfl
      · cases h6
    · cases h1
  · cases h
theorem ok_bl1 (b : B1) {a : IE} (ha : OkE c call a) : OkE c call (.bl1 b a) := fun sc fnB X B ex ct h => by
  unfold chE at h
  split at h
  · rename_i f p1 x p2
    simp only [Bool.and_eq_true] at h
    obtain ⟨h1, h2, h3⟩ := h
    obtain ⟨rfl, m1, g1⟩ := freeB_ok ct h1
    exact tri (rd_bl1 ct.calm b g1 m1 h2 (ha sc fnB X B x ct h3).1) rfl
  · cases h
theorem ok_un (u : U1) {a : IE} (ha : OkE c call a) : OkE c call (.un u a) := fun sc fnB X B ex ct h => by
  unfold chE at h
  split at h
  · split at h
    · simp only [Bool.and_eq_true] at h
      obtain ⟨h1, h2, h3⟩ := h
      obtain ⟨rfl, m1, g1⟩ := freeB_ok ct h1
      exact tri (rd_srt ct.calm ct.un g1 m1 h2 (ha sc fnB X B _ ct h3).1) rfl
    · cases h
  · split at h
    · simp only [Bool.and_eq_true] at h
      obtain ⟨h1, h2, h3, h4⟩ := h
      obtain ⟨rfl, m1, g1⟩ := freeB_ok ct h1
      obtain ⟨rfl, m2, g2⟩ := freeB_ok ct h2
      exact tri (rd_sst ct.calm g1 m1 g2 m2 h3 (ha sc fnB X B _ ct h4).1) rfl
    · cases h
  · split at h
    · simp only [Bool.and_eq_true] at h
      obtain ⟨h1, h2, h3, h4, h5⟩ := h
      obtain ⟨rfl, m1, g1⟩ := freeB_ok ct h1
      obtain rfl := eq_of_beq h2
      exact tri (rd_lvs ct.calm g1 m1 h3 h4 (ha sc fnB X B _ ct h5).1) rfl
    · cases h
  · split at h
    · simp only [Bool.and_eq_true] at h
      obtain ⟨h1, h2, h3⟩ := h
      obtain ⟨rfl, m1, g1⟩ := freeB_ok ct h1
      exact tri (rd_dcp g1 m1 h2 (ha sc fnB X B _ ct h3).1) rfl
    · cases h
  · split at h
    · simp only [Bool.and_eq_true] at h
      obtain ⟨h1, h2, h3⟩ := h
      obtain ⟨rfl, m1, g1⟩ := freeB_ok ct h1
      exact tri (rd_dks ct.calm g1 m1 h2 (ha sc fnB X B _ ct h3).1) rfl
    · cases h
  · split at h
    · simp only [Bool.and_eq_true] at h
      obtain ⟨h1, h2, h3⟩ := h
      obtain ⟨rfl, m1, g1⟩ := freeB_ok ct h1
      exact tri (rd_dts ct.calm (by have := ct.un; omega) g1 m1 h2 (ha sc fnB X B _ ct h3).1) rfl
    · cases h
  · split at h
    · simp only [Bool.and_eq_true] at h
      obtain ⟨h1, h2, h3⟩ := h
      obtain ⟨rfl, m1, g1⟩ := freeB_ok ct h1
      exact tri (rd_lks ct.calm g1 m1 h2 (ha sc fnB X B _ ct h3).1) rfl
    · cases h
  · split at h
    · simp only [Bool.and_eq_true] at h
      obtain ⟨h1, h2, h3, h4⟩ := h
      obtain ⟨rfl, m1, g1⟩ := freeB_ok ct h1
      obtain ⟨rfl, m2, g2⟩ := freeB_ok ct h2
      exact tri (rd_lrg ct.calm g1 m1 g2 m2 h3 (ha sc fnB X B _ ct h4).1) rfl
    · cases h
  · split at h
    · simp only [Bool.and_eq_true] at h
      obtain ⟨h1, h2, h3, h4⟩ := h
      obtain ⟨rfl, m1, g1⟩ := freeB_ok ct h1
      obtain ⟨rfl, m2, g2⟩ := freeB_ok ct h2
      exact tri (rd_lns ct.calm g1 m1 g2 m2 h3 (ha sc fnB X B _ ct h4).1) rfl
    · cases h
  · split at h
    · simp only [Bool.and_eq_true] at h
      obtain ⟨h1, h2⟩ := h
      obtain rfl := of_decide_eq_true h1
      exact tri (rd_rev (ha sc fnB X B _ ct h2).1) rfl
    · cases h
  · split at h
    · simp only [Bool.and_eq_true] at h
      obtain ⟨h1, h2, h3, h4, h5⟩ := h
      obtain ⟨rfl, m1, g1⟩ := freeB_ok ct h1
      obtain rfl := eq_of_beq h2
      exact tri (rd_its ct.calm g1 m1 h3 h4 (ha sc fnB X B _ ct h5).1) rfl
    · cases h
theorem ok_kg2 {y : Str} {ps : List (Str × D)} {k d : IE} (hk : OkE c call k) (hd : OkE c call d) : OkE c call (.kg2 y ps k d) := fun sc fnB X B ex ct h => by
  unfold chE at h
  split at h
  · rename_i x p m ap u v cp
    simp only [Bool.and_eq_true] at h
    obtain ⟨h1, h2, h3, h4, h5, h6, h7, h8, h9, h10⟩ := h
    obtain rfl := eq_of_beq h1
    obtain rfl := eq_of_beq h2
    exact tri (rd_kg2 (glB_ok ct.sc h3) (dbgB_ok h4).1 ((ct.gl _ _ (glIs_ok h5)).2 ps rfl) h6 h7 h8 (hk sc fnB X B u ct h9).1 (hd sc fnB X B v ct h10).1) rfl
  · cases h
theorem ok_bl2 (b : B2) {a d : IE} (ha : OkE c call a) (hd : OkE c call d) : OkE c call (.bl2 b a d) := fun sc fnB X B ex ct h => by
  unfold chE at h
  split at h
  · rename_i f p1 x y p2
    simp only [Bool.and_eq_true] at h
    obtain ⟨h1, h2, h3, h4, h5⟩ := h
    obtain ⟨rfl, m1, g1⟩ := freeB_ok ct h1
    exact tri (rd_bl2 ct.calm b g1 m1 h2 h3 (ha sc fnB X B x ct h4).1 (hd sc fnB X B y ct h5).1) rfl
  · cases h
theorem ok_ixo {a k : IE} (ha : OkE c call a) (hk : OkE c call k) : OkE c call (.ixo a k) := fun sc fnB X B ex ct h => by
  unfold chE at h
  split at h
  · rename_i x m ap y cp
    simp only [Bool.and_eq_true] at h
    obtain ⟨h1, h2, h3, h4, h5, h6⟩ := h
    have e := eq_of_beq h1
    subst e
    exact tri (rd_ixo ct.un h2 h3 h4 (ha sc fnB X B x ct h5).1 (hk sc fnB X B y ct h6).1) rfl
  · cases h
theorem ok_dsp (ks : List Const) {l : IA} (hl : OkP c call l) : OkE c call (.dsp ks l) := fun sc fnB X B ex ct h => by
  unfold chE at h
  split at h
  · rename_i keys vs p
    obtain ⟨trs, pv⟩ := hl sc fnB X B ks keys vs ct h
    exact tri (rd_dsp pv) rfl
  · cases h
theorem un1 {A : Around} (h : A.units + 65 < cLine) : A.units + 1 < cLine := by omega
theorem ok_mg1 {o k : IE} (ho : OkE c call o) (hk : OkE c call k) : OkE c call (.mg1 o k) := fun sc fnB X B ex ct h => by
  unfold chE at h
  split at h
  · rename_i x m ap y cp
    simp only [Bool.and_eq_true] at h
    obtain ⟨h1, h2, h3, h4, h5, h6⟩ := h
    have e := eq_of_beq h1
    subst e
    exact tri (rd_mg1 (un1 ct.un) h2 h3 h4 (ho sc fnB X B x ct h5).1 (hk sc fnB X B y ct h6).1) rfl
  · cases h
theorem ok_mg2 {o k d : IE} (ho : OkE c call o) (hk : OkE c call k) (hd : OkE c call d) : OkE c call (.mg2 o k d) := fun sc fnB X B ex ct h => by
  unfold chE at h
  split at h
  · rename_i x m ap y z cp
    simp only [Bool.and_eq_true] at h
    obtain ⟨h1, h2, h3, h4, h5, h6, h7, h8⟩ := h
    have e := eq_of_beq h1
    subst e
    exact tri (rd_mg2 (un1 ct.un) h2 h3 h4 h5 (ho sc fnB X B x ct h6).1 (hk sc fnB X B y ct h7).1 (hd sc fnB X B z ct h8).1) rfl
  · cases h
theorem un0 {A : Around} (h : A.units + 65 < cLine) : A.units < cLine := by omega
theorem ok_emp (t : Bool) : OkE c call (.emp t) := fun sc fnB X B ex ct h => by
  unfold chE at h
  split at h
  · exact tri (rd_emp t) rfl
  · cases h
theorem ok_din (n : Bool) {k d : IE} (hk : OkE c call k) (hd : OkE c call d) : OkE c call (.din n k d) := fun sc fnB X B ex ct h => by
  unfold chE at h
  split at h
  · rename_i x op y p
    simp only [Bool.and_eq_true, decide_eq_true_eq, Bool.not_eq_true'] at h
    obtain ⟨h1, h2, h3, h4⟩ := h
    cases n
    · have h1' : op = .In := h1
      subst h1'
      obtain ⟨q1, q2⟩ := rd_din (pos := p) (un1 ct.un) h2 (hk sc fnB X B x ct h3).1 (hd sc fnB X B y ct h4).1
      exact ⟨q1, q2, fun ⟨_, _, _, e⟩ => by cases e⟩
    · have h1' : op = .NotIn := h1
      subst h1'
      obtain ⟨q1, q2⟩ := rd_dnin (pos := p) (un1 ct.un) h2 (hk sc fnB X B x ct h3).1 (hd sc fnB X B y ct h4).1
      exact ⟨q1, q2, fun ⟨_, _, _, e⟩ => by cases e⟩
  · cases h
theorem ok_dix {d k : IE} (hd : OkE c call d) (hk : OkE c call k) : OkE c call (.dix d k) := fun sc fnB X B ex ct h => by
  unfold chE at h
  split at h
  · rename_i x y p
    simp only [Bool.and_eq_true] at h
    obtain ⟨h1, h2, h3⟩ := h
    exact tri (rd_dix (un1 ct.un) (plainIx_ok h1) (hd sc fnB X B x ct h2).1 (hk sc fnB X B y ct h3).1) rfl
  · cases h
theorem ok_sdk {d k v : IE} (hd : OkE c call d) (hk : OkE c call k) (hv : OkE c call v) : OkE c call (.sdk d k v) := fun sc fnB X B ex ct h => by
  unfold chE at h
  split at h
  · rename_i y x z p
    simp only [Bool.and_eq_true] at h
    obtain ⟨h1, h2, h3⟩ := h
    exact tri (rd_sdk (hd sc fnB X B x ct h1).1 (hk sc fnB X B y ct h2).1 (hv sc fnB X B z ct h3).1) rfl
  · cases h
theorem ok_dt1 {l : IA} {v : IE} (hl : OkA c call l) (hv : OkE c call v) : OkE c call (.dt1 l v) := fun sc fnB X B ex ct h => by
  unfold chE at h
  split at h
  · rename_i es k1 p1 x p
    simp only [Bool.and_eq_true] at h
    obtain ⟨h1, h2⟩ := h
    exact tri (rd_dt1 (un0 ct.un) (hl sc fnB X B es ct h1) (hv sc fnB X B x ct h2).1) rfl
  · cases h
theorem ok_tin (n : Bool) {l : IA} {d : IE} (hl : OkA c call l) (hd : OkE c call d) : OkE c call (.tin n l d) := fun sc fnB X B ex ct h => by
  unfold chE at h
  split at h
  · rename_i es k1 p1 op y p
    simp only [Bool.and_eq_true, decide_eq_true_eq, Bool.not_eq_true'] at h
    obtain ⟨h1, h2, h3, h4⟩ := h
    cases n
    · have h1' : op = .In := h1
      subst h1'
      obtain ⟨q1, q2⟩ := rd_tin (pos := p) (un1 ct.un) h2 (hl sc fnB X B es ct h3) (hd sc fnB X B y ct h4).1
      exact ⟨q1, q2, fun ⟨_, _, _, e⟩ => by cases e⟩
    · have h1' : op = .NotIn := h1
      subst h1'
      obtain ⟨q1, q2⟩ := rd_tnin (pos := p) (un1 ct.un) h2 (hl sc fnB X B es ct h3) (hd sc fnB X B y ct h4).1
      exact ⟨q1, q2, fun ⟨_, _, _, e⟩ => by cases e⟩
  · cases h
theorem ok_tix {d : IE} {l : IA} (hd : OkE c call d) (hl : OkA c call l) : OkE c call (.tix d l) := fun sc fnB X B ex ct h => by
  unfold chE at h
  split at h
  · rename_i x es k1 p1 p
    simp only [Bool.and_eq_true] at h
    obtain ⟨h1, h2⟩ := h
    exact tri (rd_tix (un1 ct.un) (plainIx_ok rfl) (hd sc fnB X B x ct h1).1 (hl sc fnB X B es ct h2)) rfl
  · cases h
theorem ok_tg1 {d : IE} {l : IA} (hd : OkE c call d) (hl : OkA c call l) : OkE c call (.tg1 d l) := fun sc fnB X B ex ct h => by
  unfold chE at h
  split at h
  · rename_i x m ap es k1 p1 cp
    simp only [Bool.and_eq_true] at h
    obtain ⟨h1, h2, h3, h4, h5⟩ := h
    have e := eq_of_beq h1
    subst e
    exact tri (rd_tg1 (un1 ct.un) h2 h3 (hd sc fnB X B x ct h4).1 (hl sc fnB X B es ct h5)) rfl
  · cases h
theorem ok_tg2 {d v : IE} {l : IA} (hd : OkE c call d) (hl : OkA c call l) (hv : OkE c call v) : OkE c call (.tg2 d l v) := fun sc fnB X B ex ct h => by
  unfold chE at h
  split at h
  · rename_i x m ap es k1 p1 z cp
    simp only [Bool.and_eq_true] at h
    obtain ⟨h1, h2, h3, h4, h5, h6, h7⟩ := h
    have e := eq_of_beq h1
    subst e
    exact tri (rd_tg2 (un1 ct.un) h2 h3 h4 (hd sc fnB X B x ct h5).1 (hl sc fnB X B es ct h6) (hv sc fnB X B z ct h7).1) rfl
  · cases h
theorem ok_sdv {d k v : IE} (hd : OkE c call d) (hk : OkE c call k) (hv : OkE c call v) : OkE c call (.sdv d k v) := fun sc fnB X B ex ct h => by
  unfold chE at h
  split at h
  · rename_i y x z p
    simp only [Bool.and_eq_true] at h
    obtain ⟨h1, h2, h3⟩ := h
    exact tri (rd_sdv (un0 ct.un) (hd sc fnB X B x ct h1).1 (hk sc fnB X B y ct h2).1 (hv sc fnB X B z ct h3).1) rfl
  · cases h
theorem ok_sd2 {a b : IE} (ha : OkE c call a) (hb : OkE c call b) : OkE c call (.sd2 a b) := fun sc fnB X B ex ct h => by
  unfold chE at h
  split at h
  · rename_i x y p
    simp only [Bool.and_eq_true] at h
    obtain ⟨h1, h2⟩ := h
    exact tri (rd_sd2 (un0 ct.un) (ha sc fnB X B x ct h1).1 (hb sc fnB X B y ct h2).1) rfl
  · cases h
theorem ok_pop (i : Nat) : OkE c call (.pop i) := fun sc fnB X B ex ct h => by
  unfold chE at h
  split at h
  · rename_i x p2 m ap cp
    simp only [Bool.and_eq_true] at h
    obtain ⟨h1, h2, h3, h4, h5⟩ := h
    have e := eq_of_beq h1
    subst e
    obtain ⟨d1, d2⟩ := dbgB_ok h4
    exact tri (rd_pop (ct.N ▸ slotB_ok h2) (ct.sc ▸ visB_ok h3) d1 d2 h5) rfl
  · cases h
theorem ok_sdt {d v : IE} {l : IA} (hd : OkE c call d) (hl : OkA c call l) (hv : OkE c call v) : OkE c call (.sdt d l v) := fun sc fnB X B ex ct h => by
  unfold chE at h
  split at h
  · rename_i es k1 p1 x z p
    simp only [Bool.and_eq_true] at h
    obtain ⟨h1, h2, h3⟩ := h
    exact tri (rd_sdt (un0 ct.un) (hd sc fnB X B x ct h1).1 (hl sc fnB X B es ct h2) (hv sc fnB X B z ct h3).1) rfl
  · cases h
end
end Ev

end
section
set_option linter.all false
set_option maxHeartbeats 4000000
namespace Ev
open PySem PySem.Spec PyProof.Rows L2
section
variable {c : Ck} {call : Nat → List Sl → CR}
/-- the parts of a comprehension of one clause -/
structure Lc1 (X : Cx) (B : Bs) (tg iter elt : Expr) (ifs : List Expr) (scope : Scope) (own : List (Str × Nat)) (t : IT) (gi : Env → Res (List D)) (gt : Env → Res Bool) (ge : Env → Res TV) : Prop where
  calm : X.calm = true
  nd : X.N.Nodup
  hi : PI X tg iter (RdI X.K B gi)
  ok : BlkOk X.N X.env.scope scope own
  hg : ∀ (s : Shared) (H : Hp) (C : Addr) (cl : List (Str × Addr)) (fp : List Addr), PG (X.blk s H scope (compEnvC scope cl C X.env) fp) tg (RdG X.K B t)
  ht : ∀ (s : Shared) (H : Hp) (C : Addr) (cl : List (Str × Addr)) (fp : List Addr), PTs (X.blk s H scope (compEnvC scope cl C X.env) fp) ifs (RdC X.K B gt)
  he : ∀ (s : Shared) (H : Hp) (C : Addr) (cl : List (Str × Addr)) (fp : List Addr), PE (X.blk s H scope (compEnvC scope cl C X.env) fp) elt (RdE X.K B ge)
  hs : ∀ x, foldedSetIterable iter X.env x = pure x
  hsl : ∀ i ∈ slotsT t, i ∈ own.map (·.2)
abbrev cm1G (own : List (Str × Nat)) (t : IT) (gi : Env → Res (List D)) (gt : Env → Res Bool) (ge : Env → Res TV) : Env → Res TV := fun r => (gi r).bind fun xs r1 =>
      match compL (fun x r2 => (asn t (.d x) (wipeE (own.map (·.2)) r2)).bind fun _ r3 =>
          (gt r3).bind fun ok r4 => match ok with
            | true => (ge r4).bind fun y r5 => (solidR r5 y).bind fun v r6 => .ok [v] r6
            | false => .ok [] r4) xs r1 with
      | .ok ys r2 => if ys.length ≤ SZ then .ok (.f (.list ys)) (backE r1 (own.map (·.2)) r2) else .stuck
      | _ => .stuck
structure Lc2 (X : Cx) (B : Bs) (tg iter elt tg2 iter2 : Expr) (ifs ifs2 : List Expr) (scope : Scope) (own : List (Str × Nat)) (own2 : List Nat) (t t2 : IT) (gi gi2 : Env → Res (List D)) (gt gt2 : Env → Res Bool) (ge : Env → Res TV) : Prop where
  one : Lc1 X B tg iter elt ifs scope own t gi gt ge
  hi2 : ∀ (s : Shared) (H : Hp) (C : Addr) (cl : List (Str × Addr)) (fp : List Addr), PI (X.blk s H scope (compEnvC scope cl C X.env) fp) tg2 iter2 (RdI X.K B gi2)
  hg2 : ∀ (s : Shared) (H : Hp) (C : Addr) (cl : List (Str × Addr)) (fp : List Addr), PG (X.blk s H scope (compEnvC scope cl C X.env) fp) tg2 (RdG X.K B t2)
  ht2 : ∀ (s : Shared) (H : Hp) (C : Addr) (cl : List (Str × Addr)) (fp : List Addr), PTs (X.blk s H scope (compEnvC scope cl C X.env) fp) ifs2 (RdC X.K B gt2)
  hs2 : ∀ env x, foldedSetIterable iter2 env x = pure x
  hsl2 : ∀ i ∈ slotsT t2, i ∈ own2
  hv : ∀ i ∈ own2, i ∈ own.map (·.2)
abbrev cm2G (own : List (Str × Nat)) (own2 : List Nat) (t t2 : IT) (gi gi2 : Env → Res (List D)) (gt gt2 : Env → Res Bool) (ge : Env → Res TV) : Env → Res TV := fun r => (gi r).bind fun xs r1 =>
      match compL (fun x r2 => (asn t (.d x) (wipeE (own.map (·.2)) r2)).bind fun _ r3 =>
          (gt r3).bind fun ok r4 => match ok with
            | true => (gi2 r4).bind fun zs r5 =>
              compL (fun z r6 => (asn t2 (.d z) (wipeE own2 r6)).bind fun _ r7 =>
                (gt2 r7).bind fun ok2 r8 => match ok2 with
                  | true => (ge r8).bind fun y r9 => (solidR r9 y).bind fun v r10 => .ok [v] r10
                  | false => .ok [] r8) zs r5
            | false => .ok [] r4) xs r1 with
      | .ok ys r2 => if ys.length ≤ SZ then .ok (.f (.list ys)) (backE r1 (own.map (·.2)) r2) else .stuck
      | _ => .stuck
section
variable {X : Cx} {B : Bs} {tg iter elt tg2 iter2 : Expr} {ifs ifs2 : List Expr} {scope : Scope} {own : List (Str × Nat)} {own2 : List Nat} {t t2 : IT} {gi gi2 : Env → Res (List D)} {gt gt2 : Env → Res Bool} {ge : Env → Res TV}
theorem Lc1.imp (h : Lc1 X B tg iter elt ifs scope own t gi gt ge) : ∀ σ H Q, RdE X.K B (cm1G own t gi gt ge) σ H Q → tLc (RdI X.K B gi) (RdG X.K B t) (RdC X.K B gt) (RdE X.K B ge) (own.map (·.2)) σ H Q :=
  rd_cm1 h.calm h.nd h.hi h.ok h.hg h.ht h.he h.hs h.hsl
theorem Lc1.pe {pos : Pos} (h : Lc1 X B tg iter elt ifs scope own t gi gt ge) : PE X (.ListComp elt [⟨tg, iter, ifs, 0⟩] scope pos) (RdE X.K B (cm1G own t gi gt ge)) :=
  PE.imp (pe_lc h.calm h.nd h.hi h.ok h.hg h.ht h.he h.hs) h.imp
theorem Lc2.imp (h : Lc2 X B tg iter elt tg2 iter2 ifs ifs2 scope own own2 t t2 gi gi2 gt gt2 ge) : ∀ σ H Q, RdE X.K B (cm2G own own2 t t2 gi gi2 gt gt2 ge) σ H Q → tLc2 (RdI X.K B gi) (RdG X.K B t) (RdC X.K B gt) (RdI X.K B gi2) (RdG X.K B t2) (RdC X.K B gt2) (RdE X.K B ge) (own.map (·.2)) own2 σ H Q :=
  rd_cm2 h.one.hsl h.hsl2 h.hv
theorem Lc2.pe {pos : Pos} (h : Lc2 X B tg iter elt tg2 iter2 ifs ifs2 scope own own2 t t2 gi gi2 gt gt2 ge) : PE X (.ListComp elt [⟨tg, iter, ifs, 0⟩, ⟨tg2, iter2, ifs2, 0⟩] scope pos) (RdE X.K B (cm2G own own2 t t2 gi gi2 gt gt2 ge)) :=
  PE.imp (pe_lc2 h.one.calm h.one.nd h.one.hi h.one.ok h.hv h.one.hg h.one.ht h.hi2 h.hg2 h.ht2 h.one.he h.one.hs h.hs2) h.imp
end
theorem lc1_of {elt : IE} {t : IT} {it : II} {cn : IO} {own : List (Str × Nat)} (hE : OkE c call elt) (hI : OkI c call it) (hT : OkT c call cn) {sc : Scope} {fnB : Str → Bool} {X : Cx} (B : Bs) {tg iter elt' : Expr} {ifs : List Expr} {scope : Scope} (ct : Ct B.t c call sc fnB X)
    (h2 : notSet iter = true) (h3 : chI c sc it tg iter = true) (h4 : blkB c.N sc scope own = true) (h5 : chG c (cfn scope) (relS scope sc) t tg = true) (h6 : chT c (relS scope sc) cn ifs = true) (h7 : chE c (relS scope sc) elt elt' = true)
    (h8 : ((slotsT t).all fun i => (own.map (·.2)).contains i) = true) : Lc1 X B tg iter elt' ifs scope own t (evI call it) (evT call cn) (ev call elt).1 where
  calm := ct.calm
  nd := ct.N ▸ ct.nd
  hi := hI sc fnB X B tg iter ct h3
  ok := by
    have e := ct.sc
    have e2 := ct.N
    rw [e, e2]
    exact blkB_ok h4
  hg := fun s H C cl fp => okG (ct.blk s H scope cl C fp) t tg h5
  ht := fun s H C cl fp => hT _ _ _ B ifs (ct.blk s H scope cl C fp) h6
  he := fun s H C cl fp => (hE _ _ _ B elt' (ct.blk s H scope cl C fp) h7).1
  hs := folded_ok h2
  hsl := sub_ok h8
theorem ok_cm1 {elt : IE} {it : II} {cn : IO} (own : List (Str × Nat)) (t : IT) (hE : OkE c call elt) (hI : OkI c call it) (hT : OkT c call cn) : OkE c call (.cm1 own elt t it cn) := fun sc fnB X B ex ct h => by
  unfold chE at h
  split at h
  · rename_i elt' g scope p
    obtain ⟨tg, iter, ifs, asy⟩ := g
    simp only [Bool.and_eq_true] at h
    obtain ⟨h1, h2, h3, h4, h5, h6, h7, h8⟩ := h
    have e : asy = 0 := eq_of_beq h1
    subst e
    exact tri (lc1_of hE hI hT B ct h2 h3 h4 h5 h6 h7 h8).pe rfl
  · cases h
theorem ok_cmo {elt : IE} {cn : IO} (own : List (Str × Nat)) (t : IT) (i : Nat) (hE : OkE c call elt) (hT : OkT c call cn) : OkE c call (.cmo own elt t i cn) := fun sc fnB X B ex ct h => by
  unfold chE at h
  split at h
  · rename_i elt' g scope p
    obtain ⟨tg, iter, ifs, asy⟩ := g
    simp only [Bool.and_eq_true] at h
    obtain ⟨h1, h2, h3, h4, h5, h6, h7, h8⟩ := h
    have e : asy = 0 := eq_of_beq h1
    subst e
    unfold nameB at h3
    split at h3
    · rename_i x px
      simp only [Bool.and_eq_true] at h3
      obtain ⟨n1, n2, n3⟩ := h3
      obtain ⟨d1, d2⟩ := dbgB_ok n3
      have hv := rd_var (X := X) (B := B) (pos := px) (ct.N ▸ slotB_ok n1) (ct.sc ▸ visB_ok n2) d1 d2 call
      have ok : BlkOk X.N X.env.scope scope own := by
        have e := ct.sc
        have e2 := ct.N
        rw [e, e2]
        exact blkB_ok h4
      refine tri (PE.imp (pe_lc ct.calm (ct.N ▸ ct.nd) (pi_list hv) ok (fun s H C cl fp => okG (ct.blk s H scope cl C fp) t tg h5) (fun s H C cl fp => hT _ _ _ B ifs (ct.blk s H scope cl C fp) h6)
        (fun s H C cl fp => (hE _ _ _ B elt' (ct.blk s H scope cl C fp) h7).1) (folded_ok h2)) (rd_cmo call (sub_ok h8))) rfl
    · cases h3
  · cases h
theorem ok_cmk {elt : IE} {cn : IO} (own : List (Str × Nat)) (t : IT) (i : Nat) (hE : OkE c call elt) (hT : OkT c call cn) : OkE c call (.cmk own elt t i cn) := fun sc fnB X B ex ct h => by
  unfold chE at h
  split at h
  · rename_i elt' g scope p
    obtain ⟨tg, iter, ifs, asy⟩ := g
    simp only [Bool.and_eq_true] at h
    obtain ⟨h1, h2, h3, h4, h5, h6, h7, h8⟩ := h
    have e : asy = 0 := eq_of_beq h1
    subst e
    unfold nameB at h3
    split at h3
    · rename_i x px
      simp only [Bool.and_eq_true] at h3
      obtain ⟨n1, n2, n3⟩ := h3
      obtain ⟨d1, d2⟩ := dbgB_ok n3
      have ok : BlkOk X.N X.env.scope scope own := by
        have e := ct.sc
        have e2 := ct.N
        rw [e, e2]
        exact blkB_ok h4
      have hp : PE X (.ListComp elt' [⟨tg, .Name x px, ifs, 0⟩] scope p) (tLc (iKeys (tVar i)) (RdG X.K B t) (RdC X.K B (evT call cn)) (RdE X.K B (ev call elt).1) (own.map (·.2))) := pe_lc ct.calm (ct.N ▸ ct.nd) (pi_keys (tg := tg) (pe_var (pos := px) (ct.N ▸ slotB_ok n1) (ct.sc ▸ visB_ok n2) d1 d2)) ok (fun s H C cl fp => okG (ct.blk s H scope cl C fp) t tg h5) (fun s H C cl fp => hT _ _ _ B ifs (ct.blk s H scope cl C fp) h6)
        (fun s H C cl fp => (hE _ _ _ B elt' (ct.blk s H scope cl C fp) h7).1) (folded_ok h2)
      exact tri (PE.imp (PE.or (pe_lock hp) hp) (rd_cmk (sub_ok h8))) rfl
    · cases h3
  · cases h
theorem ok_cm2 {elt : IE} {it it2 : II} {cn cn2 : IO} (own : List (Str × Nat)) (own2 : List Nat) (t t2 : IT) (hE : OkE c call elt) (hI : OkI c call it) (hT : OkT c call cn) (hI2 : OkI c call it2) (hT2 : OkT c call cn2) : OkE c call (.cm2 own own2 elt t it cn t2 it2 cn2) := fun sc fnB X B ex ct h => by
  unfold chE at h
  split at h
  · rename_i elt' g g2 scope p
    obtain ⟨tg, iter, ifs, asy⟩ := g
    obtain ⟨tg2, iter2, ifs2, asy2⟩ := g2
    simp only [Bool.and_eq_true] at h
    obtain ⟨h1, h2, h3, h4, h5, h6, h7, h8, h9, h10, h11, h12, h13, h14, h15⟩ := h
    have e : asy = 0 := eq_of_beq h1
    have e2 : asy2 = 0 := eq_of_beq h9
    subst e e2
    have l2 : Lc2 X B tg iter elt' tg2 iter2 ifs ifs2 scope own own2 t t2 (evI call it) (evI call it2) (evT call cn) (evT call cn2) (ev call elt).1 :=
      ⟨lc1_of hE hI hT B ct h2 h3 h4 h5 h6 h7 h8, fun s H C cl fp => hI2 _ _ _ B tg2 iter2 (ct.blk s H scope cl C fp) h11, fun s H C cl fp => okG (ct.blk s H scope cl C fp) t2 tg2 h12, fun s H C cl fp => hT2 _ _ _ B ifs2 (ct.blk s H scope cl C fp) h13,
        fun env => folded_ok h10, sub_ok h14, sub_ok h15⟩
    exact tri l2.pe rfl
  · cases h
theorem okA_nil : OkA c call .nil := fun sc fnB X B es ct h => by
  unfold chA at h
  split at h
  · exact rd_nil
  · cases h
theorem okA_cons {a : IE} {l : IA} (ha : OkE c call a) (hl : OkA c call l) : OkA c call (.cons a l) := fun sc fnB X B es ct h => by
  unfold chA at h
  split at h
  · rename_i e r
    simp only [Bool.and_eq_true] at h
    obtain ⟨h1, h2, h3⟩ := h
    exact rd_cons (ha sc fnB X B e ct h2).1 (hl sc fnB X B r ct h3) (star_cons h1)
  · cases h
theorem okA_lend (i : Nat) (l : IA) : OkA c call (.lend i l) := fun sc fnB X B es ct h => by
  simp [chA] at h
theorem okR_nil : OkR c call .nil := fun sc fnB X B es ct h => by
  unfold chR at h
  split at h
  · exact ⟨rr_nil, fun _ => by funext r; rfl⟩
  · cases h
theorem okR_cons {a : IE} {l : IA} (ha : OkE c call a) (hl : OkR c call l) : OkR c call (.cons a l) := fun sc fnB X B es ct h => by
  unfold chR at h
  split at h
  · rename_i e r
    simp only [Bool.and_eq_true] at h
    obtain ⟨h1, h2, h3⟩ := h
    exact ⟨rr_cons (ha sc fnB X B e ct h2).1 (hl sc fnB X B r ct h3).1 (star_cons h1), fun z => by cases z⟩
  · cases h
theorem okR_lend (i : Nat) {l : IA} (hl : OkR c call l) : OkR c call (.lend i l) := fun sc fnB X B es ct h => by
  unfold chR at h
  split at h
  · rename_i x p r
    simp only [Bool.and_eq_true] at h
    obtain ⟨h1, h2, h3, h4⟩ := h
    obtain ⟨d1, d2⟩ := dbgB_ok h3
    exact ⟨rr_lend (ct.N ▸ slotB_ok h1) (ct.sc ▸ visB_ok h2) d1 d2 (hl sc fnB X B r ct h4).1, fun z => by cases z⟩
  · cases h
theorem okP_nil : OkP c call .nil := fun sc fnB X B ks keys es ct h => by
  cases ks with
  | nil =>
    cases keys with
    | nil =>
      cases es with
      | nil => exact ⟨_, .nil⟩
      | cons => simp [chP] at h
    | cons => cases es <;> simp [chP] at h
  | cons => simp [chP] at h
theorem okP_cons {a : IE} {l : IA} (ha : OkE c call a) (hl : OkP c call l) : OkP c call (.cons a l) := fun sc fnB X B ks keys es ct h => by
  cases ks with
  | nil => cases keys <;> cases es <;> simp [chP] at h
  | cons k ks =>
    cases keys with
    | nil => simp [chP] at h
    | cons ko r =>
      cases ko with
      | none => simp [chP] at h
      | some ke =>
        cases es with
        | nil => simp [chP] at h
        | cons e es =>
          cases ke with
          | Constant k' j p =>
            simp only [chP, Bool.and_eq_true] at h
            obtain ⟨h1, h2, h3, h4⟩ := h
            have e' := cstEq_ok h2
            subst e'
            obtain ⟨trs, pv⟩ := hl sc fnB X B ks r es ct h4
            refine ⟨_, .cons ?_ (ha sc fnB X B e ct h3).1 pv⟩
            cases k with
            | int i => exact pe_int
            | str s => exact pe_str
            | _ => simp [keyCB] at h1
          | UnaryOp op ke2 p =>
            cases op with
            | USub =>
              cases ke2 with
              | Constant k' j2 p2 =>
                cases k' with
                | int j =>
                  cases k with
                  | int i =>
                    simp only [chP, Bool.and_eq_true, decide_eq_true_eq] at h
                    obtain ⟨h1, h3, h4⟩ := h
                    subst h1
                    obtain ⟨trs, pv⟩ := hl sc fnB X B ks r es ct h4
                    exact ⟨_, .cons (PE.imp (pe_un un_neg pe_int) fun σ H Q q => ⟨j, rfl, q⟩) (ha sc fnB X B e ct h3).1 pv⟩
                  | _ => simp [chP] at h
                | _ => cases k <;> simp [chP] at h
              | _ => cases k <;> simp [chP] at h
            | _ => cases k <;> simp [chP] at h
          | _ => cases k <;> simp [chP] at h
theorem okP_lend (i : Nat) (l : IA) : OkP c call (.lend i l) := fun sc fnB X B ks keys es ct h => by
  simp [chP] at h
theorem okO_no : OkO c call .no := fun sc fnB X B e ct h => by
  unfold chO at h
  split at h
  · exact rd_no
  · cases h
theorem okO_yes {a : IE} (ha : OkE c call a) : OkO c call (.yes a) := fun sc fnB X B e ct h => by
  unfold chO at h
  split at h
  · exact rd_yes (ha sc fnB X B _ ct h).1
  · cases h
theorem okT_no : OkT c call .no := fun sc fnB X B e ct h => by
  unfold chT at h
  split at h
  · exact rt_no
  · cases h
theorem okT_yes {a : IE} (ha : OkE c call a) : OkT c call (.yes a) := fun sc fnB X B e ct h => by
  unfold chT at h
  split at h
  · exact pts_one (ha sc fnB X B _ ct h).2.1
  · cases h
theorem okI_val {a : IE} (ha : OkE c call a) : OkI c call (.val a) := fun sc fnB X B tg e ct h => ri_val (ha sc fnB X B e ct h).1
theorem okI_rg1 {a : IE} (ha : OkE c call a) : OkI c call (.rg1 a) := fun sc fnB X B tg e ct h => by
  unfold chI at h
  split at h
  · rename_i f p1 x p2
    simp only [Bool.and_eq_true] at h
    obtain ⟨h1, h2, h3⟩ := h
    obtain ⟨rfl, m1, g1⟩ := freeB_ok ct h1
    exact ri_rg1 g1 m1 h2 (ha sc fnB X B x ct h3).1
  · cases h
theorem okI_rg2 {a b : IE} (ha : OkE c call a) (hb : OkE c call b) : OkI c call (.rg2 a b) := fun sc fnB X B tg e ct h => by
  unfold chI at h
  split at h
  · rename_i f p1 x y p2
    simp only [Bool.and_eq_true] at h
    obtain ⟨h1, h2, h3, h4, h5⟩ := h
    obtain ⟨rfl, m1, g1⟩ := freeB_ok ct h1
    exact ri_rg2 g1 m1 h2 h3 (ha sc fnB X B x ct h4).1 (hb sc fnB X B y ct h5).1
  · cases h
theorem okI_enm {a : IE} (ha : OkE c call a) : OkI c call (.enm a) := fun sc fnB X B tg e ct h => by
  unfold chI at h
  split at h
  · rename_i es k p f p1 x p2
    simp only [Bool.and_eq_true] at h
    obtain ⟨h1, h2, h3⟩ := h
    obtain ⟨rfl, m1, g1⟩ := freeB_ok ct h1
    exact ri_enm g1 m1 h2 (ha sc fnB X B x ct h3).1
  · cases h
theorem okI_zip {a b : IE} (ha : OkE c call a) (hb : OkE c call b) : OkI c call (.zip a b) := fun sc fnB X B tg e ct h => by
  unfold chI at h
  split at h
  · rename_i es k p f p1 x y p2
    simp only [Bool.and_eq_true] at h
    obtain ⟨h1, h2, h3, h4, h5⟩ := h
    obtain ⟨rfl, m1, g1⟩ := freeB_ok ct h1
    exact ri_zip g1 m1 h2 h3 (ha sc fnB X B x ct h4).1 (hb sc fnB X B y ct h5).1
  · cases h
theorem okI_zp3 {a b d : IE} (ha : OkE c call a) (hb : OkE c call b) (hd : OkE c call d) : OkI c call (.zp3 a b d) := fun sc fnB X B tg e ct h => by
  unfold chI at h
  split at h
  · rename_i es k p f p1 x y z p2
    simp only [Bool.and_eq_true] at h
    obtain ⟨h1, h2, h3, h4, h5, h6, h7⟩ := h
    obtain ⟨rfl, m1, g1⟩ := freeB_ok ct h1
    exact ri_zip3 g1 m1 h2 h3 h4 (ha sc fnB X B x ct h5).1 (hb sc fnB X B y ct h6).1 (hd sc fnB X B z ct h7).1
  · cases h
mutual
theorem okE (c : Ck) (call : Nat → List Sl → CR) : ∀ e : IE, OkE c call e
  | .cst d => ok_cst d
  | .var i => ok_var i
  | .glob y d => ok_glob y d
  | .bin o a b => ok_bin o (okE c call a) (okE c call b)
  | .neg a => ok_neg (okE c call a)
  | .cmp o a b => ok_cmp o (okE c call a) (okE c call b)
  | .chn o p a b d => ok_chn o p (okE c call a) (okE c call b) (okE c call d)
  | .not a => ok_not (okE c call a)
  | .and a b => ok_and (okE c call a) (okE c call b)
  | .or a b => ok_or (okE c call a) (okE c call b)
  | .ife t a b => ok_ife (okE c call t) (okE c call a) (okE c call b)
  | .tup l => ok_tup (okA c call l)
  | .lst l => ok_lst (okA c call l)
  | .idx a i => ok_idx (okE c call a) (okE c call i)
  | .slc a lo hi => ok_slc (okE c call a) (okO c call lo) (okO c call hi)
  | .isi a t => ok_isi t (okE c call a)
  | .call f y l => ok_call f y (okR c call l)
  | .lamc k g f y l => ok_lamc k g f y (okR { c with ca := [] } call l)
  | .bl1 b a => ok_bl1 b (okE c call a)
  | .un u a => ok_un u (okE c call a)
  | .bl2 b a d => ok_bl2 b (okE c call a) (okE c call d)
  | .ixo a k => ok_ixo (okE c call a) (okE c call k)
  | .dsp ks l => ok_dsp ks (okP c call l)
  | .mg1 o k => ok_mg1 (okE c call o) (okE c call k)
  | .mg2 o k d => ok_mg2 (okE c call o) (okE c call k) (okE c call d)
  | .kg2 y ps k d => ok_kg2 (okE c call k) (okE c call d)
  | .emp t => ok_emp t
  | .dt1 l v => ok_dt1 (okA c call l) (okE c call v)
  | .din n k d => ok_din n (okE c call k) (okE c call d)
  | .dix d k => ok_dix (okE c call d) (okE c call k)
  | .sdk d k v => ok_sdk (okE c call d) (okE c call k) (okE c call v)
  | .tin n l d => ok_tin n (okA c call l) (okE c call d)
  | .tix d l => ok_tix (okE c call d) (okA c call l)
  | .tg1 d l => ok_tg1 (okE c call d) (okA c call l)
  | .tg2 d l v => ok_tg2 (okE c call d) (okA c call l) (okE c call v)
  | .sdt d l v => ok_sdt (okE c call d) (okA c call l) (okE c call v)
  | .sdv d k v => ok_sdv (okE c call d) (okE c call k) (okE c call v)
  | .sd2 a b => ok_sd2 (okE c call a) (okE c call b)
  | .pop i => ok_pop i
  | .cm1 own elt t it cn => ok_cm1 own t (okE c call elt) (okI c call it) (okT c call cn)
  | .cmo own elt t i cn => ok_cmo own t i (okE c call elt) (okT c call cn)
  | .cmk own elt t i cn => ok_cmk own t i (okE c call elt) (okT c call cn)
  | .cm2 own own2 elt t it cn t2 it2 cn2 => ok_cm2 own own2 t t2 (okE c call elt) (okI c call it) (okT c call cn) (okI c call it2) (okT c call cn2)
theorem okA (c : Ck) (call : Nat → List Sl → CR) : ∀ l : IA, OkA c call l
  | .nil => okA_nil
  | .cons a l => okA_cons (okE c call a) (okA c call l)
  | .lend i l => okA_lend i l
theorem okR (c : Ck) (call : Nat → List Sl → CR) : ∀ l : IA, OkR c call l
  | .nil => okR_nil
  | .cons a l => okR_cons (okE c call a) (okR c call l)
  | .lend i l => okR_lend i (okR c call l)
theorem okP (c : Ck) (call : Nat → List Sl → CR) : ∀ l : IA, OkP c call l
  | .nil => okP_nil
  | .cons a l => okP_cons (okE c call a) (okP c call l)
  | .lend i l => okP_lend i l
theorem okO (c : Ck) (call : Nat → List Sl → CR) : ∀ l : IO, OkO c call l
  | .no => okO_no
  | .yes a => okO_yes (okE c call a)
theorem okT (c : Ck) (call : Nat → List Sl → CR) : ∀ l : IO, OkT c call l
  | .no => okT_no
  | .yes a => okT_yes (okE c call a)
theorem okI (c : Ck) (call : Nat → List Sl → CR) : ∀ l : II, OkI c call l
  | .val a => okI_val (okE c call a)
  | .rg1 a => okI_rg1 (okE c call a)
  | .rg2 a b => okI_rg2 (okE c call a) (okE c call b)
  | .enm a => okI_enm (okE c call a)
  | .zip a b => okI_zip (okE c call a) (okE c call b)
  | .zp3 a b d => okI_zp3 (okE c call a) (okE c call b) (okE c call d)
end
end
end Ev

end
section
set_option linter.all false
set_option maxHeartbeats 4000000
/-! Statements. -/
namespace Ev
open PySem PySem.Spec PyProof.Rows L2
/-- from one state of a body to a later one -/
structure Go (K : Fg) (B : Bs) (σ : L2.St) (r : Env) (F H : Hp) (σ' : L2.St) (r' : Env) (F' H' : Hp) : Prop where
  st : StR K B F' H' σ' r'
  mono : Sub F F'
  frame : Kp (Own σ r) H H'
  dom : ∀ a, nT H a ≠ none → nT H' a ≠ none
  fr : ∀ a, F' a ≠ none → F a ≠ none ∨ NT H a ∨ Own σ r a
  own : ∀ a, Own σ' r' a → Own σ r a ∨ nT H a = none
section
variable {K : Fg} {B : Bs} {σ σ' σ2 : L2.St} {r r' r1 r2 : Env} {F H F' H' F1 H1 F2 H2 : Hp}
theorem Go.refl (s : StR K B F H σ r) : Go K B σ r F H σ r F H := ⟨s, Sub.refl _, Kp.refl, fun _ h => h, fun _ h => .inl h, fun _ h => .inl h⟩
theorem Post.go (p : Post K B σ r F H r' F' H') : Go K B σ r F H σ r' F' H' := ⟨p.st, p.mono, p.frame, p.dom, p.fr, fun a h => .inl (p.own a h)⟩
theorem AsnP.go {sl : List Nat} (a : AsnP K B F H sl σ r σ' r') : Go K B σ r F H σ' r' F H := ⟨a.st, Sub.refl _, Kp.refl, fun _ h => h, fun _ h => .inl h, fun c h => .inl (a.own c h)⟩
theorem Go.trans (a : Go K B σ r F H σ' r' F' H') (b : Go K B σ' r' F' H' σ2 r2 F2 H2) : Go K B σ r F H σ2 r2 F2 H2 where
  st := b.st
  mono := a.mono.trans b.mono
  frame := a.frame.trans b.frame a.own
  dom := fun c h => b.dom c (a.dom c h)
  fr := fun c h => by
    rcases b.fr c h with q | q | q
    · exact a.fr c q
    · exact Classical.byCases (fun w : Own σ r c => .inr (.inr w)) fun w => .inr (.inl (NT.back a.frame a.dom w q))
    · exact .inr ((a.own c q).elim .inr fun z => .inl (.inl z))
  own := fun c h => by
    rcases b.own c h with q | q
    · exact a.own c q
    · exact .inr (Classical.byContradiction fun n => a.dom c n q)
end
/-- what is wanted behind a statement -/
def EndR (K : Fg) (B : Bs) (D : Ends) (fl : Fl) (σ' : L2.St) (F' H' : Hp) : Prop :=
  match fl with
  | .nx => D.nx σ' H'
  | .brk => D.bk σ' H'
  | .cnt => D.ct σ' H'
  | .ret b v => ∀ x, TvR K B.h [] F' H' (if b = true then .f v else .d v) x → D.rt x H'
def RdS (K : Fg) (B : Bs) (g : Env → Res Fl) : TS := fun D σ H => ∃ F r, StR K B F H σ r ∧ ∃ fl r', g r = .ok fl r' ∧ ∀ σ' F' H', Go K B σ r F H σ' r' F' H' → EndR K B D fl σ' F' H'
theorem PS.imp {X : Cx} {e : Stmt} {t t' : TS} (h : PS X e t) (w : ∀ D σ H, t' D σ H → t D σ H) : PS X e t' := ⟨fun pins s σ H D I q => h.run pins s σ H D I (w D σ H q)⟩
theorem PSs.imp {X : Cx} {e : List Stmt} {t t' : TS} (h : PSs X e t) (w : ∀ D σ H, t' D σ H → t D σ H) : PSs X e t' := ⟨fun pins s σ H D I q => h.run pins s σ H D I (w D σ H q)⟩
def notComp : Expr → Bool
  | .ListComp _ _ _ _ => false
  | .SetComp _ _ _ _ => false
  | .DictComp _ _ _ _ _ => false
  | _ => true
theorem sw_no {e : Expr} {tg : Option Expr} {l : Nat} {env : PySem.Env} (h : notComp e = true) : swapsWith e tg l env = pure false := by
  cases e <;> first | rfl | (simp [notComp] at h)
section
variable {X : Cx} {B : Bs} {pos : Pos} {e c : Expr} {g : Env → Res TV} {gc : Env → Res Bool} {gs gt : Env → Res Fl}
theorem rs_pas : PS X (.Pass pos) (RdS X.K B fun r => .ok .nx r) := PS.imp ps_pass fun D σ H ⟨F, r, s, fl, r', e, k⟩ => by
  cases e
  exact k σ F H (Go.refl s)
theorem rs_brk : PS X (.Break pos) (RdS X.K B fun r => .ok .brk r) := PS.imp ps_break fun D σ H ⟨F, r, s, fl, r', e, k⟩ => by
  cases e
  exact k σ F H (Go.refl s)
theorem rs_cnt : PS X (.Continue pos) (RdS X.K B fun r => .ok .cnt r) := PS.imp ps_continue fun D σ H ⟨F, r, s, fl, r', e, k⟩ => by
  cases e
  exact k σ F H (Go.refl s)
theorem rs_rse {st : Stmt} {cl : Str} : PS X st (RdS X.K B fun r => .exc cl .none r) := PS.imp ps_never fun D σ H ⟨F, r, s, fl, r', e, k⟩ => by cases e
theorem rs_ex (hs : notComp e = true) (he : PE X e (RdE X.K B g)) : PS X (.Expr e pos) (RdS X.K B fun r => (g r).bind fun _ r1 => .ok .nx r1) :=
  PS.imp (ps_expr he (sw_no hs)) fun D σ H ⟨F, r, s, fl, r', q, k⟩ => by
    obtain ⟨x, r1, e1, q⟩ := bind_inv q
    cases q
    exact ⟨F, r, s, x, r', e1, fun xv F1 H1 p1 _ => k σ F1 H1 p1.go⟩
theorem rs_doc {x : Str} {j : Nat} {p2 : Pos} : PS X (.Expr (.Constant (.str x) j p2) pos) (RdS X.K B fun r => .ok .nx r) := PS.imp ps_doc fun D σ H ⟨F, r, s, fl, r', e, k⟩ => by
  cases e
  exact k σ F H (Go.refl s)
theorem rs_retN : PS X (.Return none pos) (RdS X.K B fun r => .ok (.ret false .none) r) := PS.imp ps_retN fun D σ H ⟨F, r, s, fl, r', e, k⟩ => by
  cases e
  exact k σ F H (Go.refl s) .non .non
theorem rs_ret (he : PE X e (RdE X.K B g)) : PS X (.Return (some e) pos) (RdS X.K B fun r => (g r).bind fun x r1 => match x with
      | .d v => .ok (.ret false v) r1
      | .f v => .ok (.ret true v) r1
      | .s i => match r1[i]? with
        | some (.own d) => .ok (.ret true d) r1
        | _ => .stuck) := PS.imp (ps_ret he) fun D σ H ⟨F, r, s, fl, r', q, k⟩ => by
  obtain ⟨x, r1, e1, q⟩ := bind_inv q
  refine ⟨F, r, s, x, r1, e1, fun xv F1 H1 p1 t1 => ?_⟩
  split at q
  · cases q
    exact k σ F1 H1 p1.go xv t1
  · cases q
    obtain ⟨p, o, h1, h2, h3, h4, h5⟩ := t1
    exact k σ F1 H1 p1.go xv ⟨p, o, h1, h2, h3, h4, Classical.byContradiction fun n => s.dom.at_ p n h5⟩
  · rename_i i
    split at q
    · rename_i d hd
      cases q
      obtain ⟨a, o, h1, h2, h3, h4⟩ := p1.st.obj i d (.inl hd)
      have h5 : σ[i]? = some (some xv) := t1
      rw [h1] at h5
      cases h5
      exact k σ F1 H1 p1.go _ ⟨a, o, rfl, h2, h3, h4, p1.st.new i d a hd h1⟩
    · cases q
theorem rs_if {a b : List Stmt} (hc : PT X c (RdC X.K B gc)) (ha : PSs X a (RdS X.K B gs)) (hb : PSs X b (RdS X.K B gt)) : PS X (.If c a b pos) (RdS X.K B fun r => (gc r).bind fun t r1 => match t with
      | true => gs r1
      | false => gt r1) := PS.imp (ps_if hc ha hb) fun D σ H ⟨F, r, s, fl, r', q, k⟩ => by
  obtain ⟨x, r1, e1, q⟩ := bind_inv q
  refine ⟨F, r, s, x, r1, e1, fun F1 H1 p1 => ?_⟩
  cases x with
  | true =>
    rw [if_pos rfl]
    exact ⟨F1, r1, p1.st, fl, r', q, fun σ' F' H' g => k σ' F' H' (p1.go.trans g)⟩
  | false =>
    rw [if_neg (by decide)]
    exact ⟨F1, r1, p1.st, fl, r', q, fun σ' F' H' g => k σ' F' H' (p1.go.trans g)⟩
theorem rs_nil : PSs X [] (RdS X.K B fun r => .ok .nx r) := PSs.imp pss_nil fun D σ H ⟨F, r, s, fl, r', e, k⟩ => by
  cases e
  exact k σ F H (Go.refl s)
theorem EndR.up {K : Fg} {D : Ends} {n : L2.St → Hp → Prop} {fl : Fl} {σ' : L2.St} {F' H' : Hp} (h : EndR K B D fl σ' F' H') (hn : fl ≠ .nx) : EndR K B { D with nx := n } fl σ' F' H' := by
  cases fl with
  | nx => exact absurd rfl hn
  | brk => exact h
  | cnt => exact h
  | ret b v => exact h
theorem rs_cons {st : Stmt} {sts : List Stmt} (h1 : PS X st (RdS X.K B gs)) (h2 : PSs X sts (RdS X.K B gt)) : PSs X (st :: sts) (RdS X.K B fun r => match gs r with
    | .ok .nx r1 => gt r1
    | o => o) := PSs.imp (pss_cons h1 h2) fun D σ H ⟨F, r, s, fl, r', q, k⟩ => by
  dsimp only at q
  split at q
  · rename_i r1 e1
    refine ⟨F, r, s, .nx, r1, e1, fun σ' F' H' g => ?_⟩
    exact ⟨F', r1, g.st, fl, r', q, fun σ2 F2 H2 g2 => k σ2 F2 H2 (g.trans g2)⟩
  · rename_i hn
    have hne : fl ≠ .nx := fun z => by subst z; exact hn r' q
    exact ⟨F, r, s, fl, r', q, fun σ' F' H' g => (k σ' F' H' g).up hne⟩
theorem rs_whl {body : List Stmt} {W : Nat} (hx : PassesOwn (model X.prog X.w) X.A X.env X.xe) (hc : PT X c (RdC X.K B gc)) (hb : PSs X body (RdS X.K B gs)) : PS X (.While c body [] pos) (RdS X.K B fun r => whileN gc gs W r) :=
  PS.imp (ps_while hx hc hb) fun D σ H ⟨F, r, s, fl, rE, q, k⟩ => by
    refine ⟨fun m σ' H' => ∃ F' rr, Go X.K B σ r F H σ' rr F' H' ∧ whileN gc gs m rr = .ok fl rE, ⟨W, F, r, Go.refl s, q⟩, ?_⟩
    rintro m σ1 H1 ⟨F1, r1, g1, q1⟩
    cases m with
    | zero => cases q1
    | succ m =>
      unfold whileN at q1
      obtain ⟨t, r2, e2, q1⟩ := bind_inv q1
      refine ⟨F1, r1, g1.st, t, r2, e2, fun F2 H2 p2 => ?_⟩
      have g2 := g1.trans p2.go
      cases t with
      | false =>
        cases q1
        show if false = true then _ else D.nx σ1 H2
        rw [if_neg (by decide)]
        exact k σ1 F2 H2 g2
      | true =>
        dsimp only at q1
        dsimp only
        rw [if_pos rfl]
        refine ⟨fun σ' H' => ∃ F' rr, Go X.K B σ r F H σ' rr F' H' ∧ whileN gc gs m rr = .ok fl rE, fun σ' H' z => ⟨m, Nat.lt_succ_self _, z⟩, F2, r2, p2.st, ?_⟩
        split at q1
        · rename_i r3 e3
          exact ⟨_, _, e3, fun σ' F' H' g => ⟨F', r3, g2.trans g, q1⟩⟩
        · rename_i r3 e3
          exact ⟨_, _, e3, fun σ' F' H' g => ⟨F', r3, g2.trans g, q1⟩⟩
        · rename_i r3 e3
          cases q1
          exact ⟨_, _, e3, fun σ' F' H' g => k σ' F' H' (g2.trans g)⟩
        · rename_i b v r3 e3
          cases q1
          exact ⟨_, _, e3, fun σ' F' H' g => k σ' F' H' (g2.trans g)⟩
        · cases q1
        · cases q1
theorem rs_for {tg iter : Expr} {t : IT} {gi : Env → Res (List D)} {body : List Stmt} (hx : PassesOwn (model X.prog X.w) X.A X.env X.xe) (hcm : X.calm = true) (hi : PI X tg iter (RdI X.K B gi)) (hg : PG X tg (RdG X.K B t)) (hb : PSs X body (RdS X.K B gs)) (hs : ∀ x, foldedSetIterable iter X.env x = pure x) :
    PS X (.For tg iter body [] pos) (RdS X.K B fun r => (gi r).bind fun xs r1 => forL (fun x r2 => (asn t (.d x) r2).bind fun _ r3 => gs r3) xs r1) :=
  PS.imp (ps_for hx hcm hi hg hb hs) fun D σ H ⟨F, r, s, fl, rE, q, k⟩ => by
    obtain ⟨xs, r1, e1, q⟩ := bind_inv q
    refine ⟨F, r, s, xs, r1, e1, fun J F1 H1 p1 wk => ?_⟩
    refine ⟨fun i m σ' H' => m = xs.length - i ∧ i ≤ xs.length ∧ ∃ F' rr, Go X.K B σ r F H σ' rr F' H' ∧ Sub F1 F' ∧ forL (fun x r2 => (asn t (.d x) r2).bind fun _ r3 => gs r3) (xs.drop i) rr = .ok fl rE, ⟨xs.length, by simp, Nat.zero_le _, F1, r1, p1.go, Sub.refl _, q⟩, ?_⟩
    rintro i m σ2 H2 ⟨rfl, hi, F2, r2, g2, sb2, q2⟩
    by_cases hlt : i < xs.length
    · have hd : xs.drop i = xs[i] :: xs.drop (i + 1) := List.drop_eq_getElem_cons hlt
      rw [hd] at q2
      unfold forL at q2
      refine .inr ⟨wk.goes i H2 hlt (sb2.trans g2.st.sub), fun σ' H' => ∃ F' rr, Go X.K B σ r F H σ' rr F' H' ∧ Sub F1 F' ∧ forL (fun x r2 => (asn t (.d x) r2).bind fun _ r3 => gs r3) (xs.drop (i + 1)) rr = .ok fl rE,
        fun σ' H' z => ⟨xs.length - (i + 1), by omega, rfl, hlt, z⟩, fun x H' y => ?_⟩
      obtain ⟨d, hd2, out⟩ := wk.yields i H2 x H' hlt (sb2.trans g2.st.sub) y
      have ed : d = xs[i] := by
        rw [List.getElem?_eq_getElem hlt] at hd2
        exact (Option.some.inj hd2).symm
      subst ed
      obtain ⟨F3, p3, t3⟩ := (out.mono sb2).post g2.st
      have g3 := g2.trans p3.go
      have sb3 := sb2.trans p3.mono
      have key : ∀ (f2 : Fl) (r5 : Env), ((asn t (.d xs[i]) r2).bind fun _ r3 => gs r3) = .ok f2 r5 → (∀ σ' F' H'', Go X.K B σ r F H σ' r5 F' H'' → Sub F1 F' → EndR X.K B { D with nx := fun σ' H' => ∃ F' rr, Go X.K B σ r F H σ' rr F' H' ∧ Sub F1 F' ∧ forL (fun x r2 => (asn t (.d x) r2).bind fun _ r3 => gs r3) (xs.drop (i + 1)) rr = .ok fl rE, ct := fun σ' H' => ∃ F' rr, Go X.K B σ r F H σ' rr F' H' ∧ Sub F1 F' ∧ forL (fun x r2 => (asn t (.d x) r2).bind fun _ r3 => gs r3) (xs.drop (i + 1)) rr = .ok fl rE, bk := D.nx } f2 σ' F' H'') →
          RdG X.K B t x σ2 H' fun σ2 H2 => RdS X.K B gs { D with nx := fun σ' H' => ∃ F' rr, Go X.K B σ r F H σ' rr F' H' ∧ Sub F1 F' ∧ forL (fun x r2 => (asn t (.d x) r2).bind fun _ r3 => gs r3) (xs.drop (i + 1)) rr = .ok fl rE, ct := fun σ' H' => ∃ F' rr, Go X.K B σ r F H σ' rr F' H' ∧ Sub F1 F' ∧ forL (fun x r2 => (asn t (.d x) r2).bind fun _ r3 => gs r3) (xs.drop (i + 1)) rr = .ok fl rE, bk := D.nx } σ2 H2 := fun f2 r5 ef kk => by
        obtain ⟨_, r4, e4, ef⟩ := bind_inv ef
        refine ⟨F3, r2, xs[i], p3.st, t3, r4, e4, fun σ4 a4 => ⟨F3, r4, a4.st, f2, r5, ef, fun σ5 F5 H5 g5 => ?_⟩⟩
        exact kk σ5 F5 H5 ((g3.trans a4.go).trans g5) (sb3.trans g5.mono)
      split at q2
      · rename_i r5 e5
        exact key _ _ e5 fun σ' F' H'' g sb => ⟨F', r5, g, sb, q2⟩
      · rename_i r5 e5
        exact key _ _ e5 fun σ' F' H'' g sb => ⟨F', r5, g, sb, q2⟩
      · rename_i r5 e5
        cases q2
        exact key _ _ e5 fun σ' F' H'' g sb => k σ' F' H'' g
      · rename_i b v r5 e5
        cases q2
        exact key _ _ e5 fun σ' F' H'' g sb => k σ' F' H'' g
      · cases q2
      · cases q2
    · have ei : i = xs.length := by omega
      subst ei
      rw [List.drop_length] at q2
      cases q2
      exact .inl ⟨wk.stops H2 (sb2.trans g2.st.sub), k σ2 F2 H2 g2⟩
end
end Ev

end
section
set_option linter.all false
set_option maxHeartbeats 4000000
/-! Assignments. -/
namespace Ev
open PySem PySem.Spec PyProof.Rows L2
section
variable {K : Fg} {B : Bs} {σ : L2.St} {r r1 r2 : Env} {F H F1 H1 : Hp}
theorem slot_some {s : Sl} {i : Nat} (h : r1[i]? = some s) (e : r1.length = r2.length) : ∃ s', r2[i]? = some s' := by
  have h1 := (List.getElem?_eq_some_iff.mp h).1
  rw [e] at h1
  exact ⟨r2[i], by simp [h1]⟩
/-- a name's store, whatever is stored -/
theorem asn1_go {x : TV} {v : V} {i : Nat} {m : Bool} (s : StR K B F H σ r) (p : Post K B σ r F H r1 F1 H1) (t : TvR K H σ F1 H1 x v) (e : asn1 i m x r1 = .ok () r2) : ∃ F2, Go K B σ r F H (σ.set i (some v)) r2 F2 H1 := by
  unfold asn1 at e
  split at e
  · cases e
  · cases e
  · cases e
  · rename_i sl nb nl hs
    cases m with
    | true =>
      rw [if_pos rfl] at e
      split at e
      · rename_i d
        cases e
        obtain ⟨q, o, rfl, e1, e2, e3, e4⟩ := t
        have no : ¬ Own σ r1 q := fun z => p.ne s q z e4
        obtain ⟨st', ow'⟩ := asn_own p.st e1 e2 e3 no (Classical.byContradiction fun n => s.dom.at_ q n e4) hs
        exact ⟨F1, st', p.mono, p.frame, p.dom, p.fr, fun a h => (ow' a h).elim (fun z => .inl (p.own a z)) fun z => .inr (z ▸ e4)⟩
      · cases e
    | false =>
      rw [if_neg (by decide)] at e
      split at e
      · rename_i d r' hsol
        cases e
        obtain ⟨F2, p2, hv, _⟩ := solid_post s p t hsol
        obtain ⟨s', hs'⟩ := slot_some hs (p.st.len.symm.trans p2.st.len)
        exact ⟨F2, asn_val p2.st hv hs', p2.mono, p2.frame, p2.dom, p2.fr, fun a h => .inl (p2.own a (own_sub h))⟩
      · cases e
end
section
variable {X : Cx} {B : Bs} {pos : Pos} {e : Expr} {g : Env → Res TV}
theorem set_rd {i : Nat} {m : Bool} {D : Ends} {σ : L2.St} {H : Hp} (q : RdS X.K B (fun r => (g r).bind fun x r1 => (asn (.n i m) x r1).bind fun _ r2 => .ok .nx r2) D σ H) : RdE X.K B g σ H fun x H1 => gName i x σ H1 D.nx := by
  obtain ⟨F, r, s, fl, r', q, k⟩ := q
  obtain ⟨x, r1, e1, q⟩ := bind_inv q
  obtain ⟨_, r2, e2, q⟩ := bind_inv q
  cases q
  refine ⟨F, r, s, x, r1, e1, fun v F1 H1 p1 t1 => ?_⟩
  obtain ⟨F2, g2⟩ := asn1_go s p1 t1 e2
  exact k _ F2 H1 g2
theorem rs_set {i : Nat} {x : Str} {m : Bool} {p2 : Pos} (hN : X.N.Nodup) (hi : X.N[i]? = some x) (hx : Loc X.env.scope x) (hf : X.fn x = true ∨ X.env.scope.names.lookup x = some .local) (hs : swapsWith e (some (.Name x p2)) pos.line X.env = pure false) (he : PE X e (RdE X.K B g)) :
    PS X (.Assign [.Name x p2] e pos) (RdS X.K B fun r => (g r).bind fun x r1 => (asn (.n i m) x r1).bind fun _ r2 => .ok .nx r2) :=
  PS.imp (ps_set hN hi hx he hs hf) fun D σ H q => set_rd q
/-- [..] under a name on one line changes places with the block's value -/
def swB (sc scope : Scope) (y : Str) (py pos : Pos) : Bool := isLoc sc y && ((py.line == pos.line) && !(scope.names.any fun (n, k) => n == y && (k == .local || k == .cell)))
theorem sw_eq {elt : Expr} {gs : List Comprehension} {scope : Scope} {p py : Pos} {y : Str} {l : Nat} {env : PySem.Env} (hk : env.scope.kind = .function) : swapsWith (.ListComp elt gs scope p) (some (.Name y py)) l env = pure (swB env.scope scope y py p) := by
  have hb : env.blockKind = .function := by unfold Env.blockKind; rw [hk]; rfl
  have e1 : (env.kindOf y == some .local) = isLoc env.scope y := by
    have e0 : env.kindOf y = env.scope.names.lookup y := rfl
    rw [e0]
    unfold isLoc
    split
    · rename_i q; rw [q]; rfl
    · rename_i q
      cases z : env.scope.names.lookup y with
      | none => rfl
      | some kd =>
        cases kd <;> first | rfl | exact absurd z q
  show pure (env.blockKind == .function && env.kindOf y == some .local && py.line == p.line && !(scope.names.any fun (n, k) => n == y && (k == .local || k == .cell))) = _
  rw [hb, e1]
  unfold swB
  rw [Bool.and_assoc, Bool.and_assoc]
  rfl
theorem rs_setLc {i : Nat} {x : Str} {m : Bool} {p2 p3 : Pos} {tg iter elt : Expr} {ifs : List Expr} {scope : Scope} {own : List (Str × Nat)} {t : IT} {gi : Env → Res (List D)} {gt : Env → Res Bool} {ge : Env → Res TV} (hk : X.env.scope.kind = .function) (hi : X.N[i]? = some x) (hx : Loc X.env.scope x)
    (hf : X.fn x = true ∨ X.env.scope.names.lookup x = some .local) (h : Lc1 X B tg iter elt ifs scope own t gi gt ge) :
    PS X (.Assign [.Name x p2] (.ListComp elt [⟨tg, iter, ifs, 0⟩] scope p3) pos) (RdS X.K B fun r => (cm1G own t gi gt ge r).bind fun x r1 => (asn (.n i m) x r1).bind fun _ r2 => .ok .nx r2) := by
  have sw := sw_eq (elt := elt) (gs := [⟨tg, iter, ifs, 0⟩]) (scope := scope) (p := p3) (py := p2) (y := x) (l := pos.line) hk
  cases q : swB X.env.scope scope x p2 p3 with
  | false =>
    rw [q] at sw
    exact rs_set h.nd hi hx hf sw h.pe
  | true =>
    rw [q] at sw
    have hl : X.env.scope.names.lookup x = some .local := by
      unfold swB at q
      rw [Bool.and_eq_true] at q
      exact isLoc_ok q.1
    exact PS.imp (ps_setLc h.calm h.nd hi hl sw h.hi h.ok h.hg h.ht h.he h.hs) fun D σ H q => h.imp _ _ _ (set_rd q)
theorem rs_setLc2 {i : Nat} {x : Str} {m : Bool} {p2 p3 : Pos} {tg iter elt tg2 iter2 : Expr} {ifs ifs2 : List Expr} {scope : Scope} {own : List (Str × Nat)} {own2 : List Nat} {t t2 : IT} {gi gi2 : Env → Res (List D)} {gt gt2 : Env → Res Bool} {ge : Env → Res TV} (hk : X.env.scope.kind = .function) (hi : X.N[i]? = some x) (hx : Loc X.env.scope x)
    (hf : X.fn x = true ∨ X.env.scope.names.lookup x = some .local) (h : Lc2 X B tg iter elt tg2 iter2 ifs ifs2 scope own own2 t t2 gi gi2 gt gt2 ge) :
    PS X (.Assign [.Name x p2] (.ListComp elt [⟨tg, iter, ifs, 0⟩, ⟨tg2, iter2, ifs2, 0⟩] scope p3) pos) (RdS X.K B fun r => (cm2G own own2 t t2 gi gi2 gt gt2 ge r).bind fun x r1 => (asn (.n i m) x r1).bind fun _ r2 => .ok .nx r2) := by
  have sw := sw_eq (elt := elt) (gs := [⟨tg, iter, ifs, 0⟩, ⟨tg2, iter2, ifs2, 0⟩]) (scope := scope) (p := p3) (py := p2) (y := x) (l := pos.line) hk
  cases q : swB X.env.scope scope x p2 p3 with
  | false =>
    rw [q] at sw
    exact rs_set h.one.nd hi hx hf sw h.pe
  | true =>
    rw [q] at sw
    have hl : X.env.scope.names.lookup x = some .local := by
      unfold swB at q
      rw [Bool.and_eq_true] at q
      exact isLoc_ok q.1
    exact PS.imp (ps_setLc2 h.one.calm h.one.nd hi hl sw h.one.hi h.one.ok h.hv h.one.hg h.one.ht h.hi2 h.hg2 h.ht2 h.one.he h.one.hs h.hs2) fun D σ H q => h.imp _ _ _ (set_rd q)
theorem sws_no {t : Expr} {l : Nat} {env : PySem.Env} (h : notComp e = true) : swapsWithSole [t] e l env = pure false := by
  show swapsWith e (some t) l env = pure false
  exact sw_no h
def notTup : Expr → Bool
  | .Tuple _ _ _ => false
  | _ => true
theorem stores_no {ts : List Expr} {kt : Nat} {p2 : Pos} {env : PySem.Env} (h : notTup e = true) : swappedStores [.Tuple ts kt p2] e env = pure none := by
  cases e <;> first | rfl | (simp [notTup] at h)
theorem rp_of_tup {K : Fg} {B : Bs} {H0 : Hp} {σ : L2.St} {r : Env} {F H : Hp} {t : TV} {v : V} {xs : List D} (s : StR K B F H σ r) (h : TvR K H0 σ F H t v) (e : deref r t = some (.tuple xs)) : Rp K F v (.tuple xs) := by
  obtain ⟨a, ys, rfl, h1, h2⟩ := (deref_rq s h e).tup
  exact .tup h1 h2
/-- (a, b), c = a value -/
theorem sws_tup {ts : List Expr} {kt : Nat} {p2 : Pos} {l : Nat} {env : PySem.Env} : swapsWithSole [.Tuple ts kt p2] e l env = pure false := by
  show swapsWith e (some (.Tuple ts kt p2)) l env = pure false
  cases e <;> rfl
theorem rs_tup {es : List Expr} {kt : Nat} {p2 : Pos} {l : List IT} (ht : notTup e = true) (he : PE X e (RdE X.K B g)) (hg : PG X (.Tuple es kt p2) (RdG X.K B (.t l))) :
    PS X (.Assign [.Tuple es kt p2] e pos) (RdS X.K B fun r => (g r).bind fun x r1 => (asn (.t l) x r1).bind fun _ r2 => .ok .nx r2) :=
  PS.imp (ps_asg he hg sws_tup (stores_no ht)) fun D σ H ⟨F, r, s, fl, r', q, k⟩ => by
    obtain ⟨x, r1, e1, q⟩ := bind_inv q
    obtain ⟨_, r2, e2, q⟩ := bind_inv q
    cases q
    refine ⟨F, r, s, x, r1, e1, fun v F1 H1 p1 t1 => ?_⟩
    unfold asn at e2
    split at e2
    · rename_i xs hd
      exact ⟨F1, r1, .tuple xs, p1.st, rp_of_tup p1.st t1 hd, r', e2, fun σ' ap => k σ' F1 H1 (p1.go.trans ap.go)⟩
    · rename_i xs hd
      cases x with
      | s i => rw [if_pos (by rfl)] at e2; cases e2
      | d y =>
        rw [if_neg (by simp [isSl])] at e2
        cases (show some y = some (PyData.list xs) from hd)
        exact ⟨F1, r1, .list xs, p1.st, t1, r', e2, fun σ' ap => k σ' F1 H1 (p1.go.trans ap.go)⟩
      | f y =>
        rw [if_neg (by simp [isSl])] at e2
        cases (show some y = some (PyData.list xs) from hd)
        obtain ⟨p, o, rfl, h1, h2, ⟨ys, rfl, rl⟩, h4⟩ := t1
        have no : ¬ Own σ r1 p := fun w => by
          exact p1.ne s p w h4
        have st1 := freeze (H0 := H) p1.st h1 h2 no pl_lst
        have hv : Rp X.K (upd F1 p (.lst ys)) (.ref p) (.list xs) := .lst upd_same (rl.mono (sub_upd h2))
        refine ⟨upd F1 p (.lst ys), r1, .list xs, st1, hv, r', e2, fun σ' ap => k σ' (upd F1 p (.lst ys)) H1 ?_⟩
        refine Go.trans ⟨st1, p1.mono.trans (sub_upd h2), p1.frame, p1.dom, fun a ha => ?_, fun a ha => .inl (p1.own a ha)⟩ ap.go
        rcases upd_some ha with z | z
        · exact .inr (.inl (.inl (z ▸ h4)))
        · exact p1.fr a z
    · cases e2
/-- x[k] = value -/
theorem rs_sto {i : Nat} {x : Str} {k : Expr} {p2 p3 : Pos} {gk : Env → Res TV} (hN : X.N[i]? = some x) (hv : Vis X.env.scope x) (hd : (x == ("__debug__" : Str)) = false) (hcd : (x == ("__classdict__" : Str)) = false) (hs : notComp e = true) (hk : plainIxB k = true)
    (he : PE X e (RdE X.K B g)) (hkk : PE X k (RdE X.K B gk)) :
    PS X (.Assign [.Subscript (.Name x p2) k p3] e pos) (RdS X.K B fun r => (g r).bind fun x r1 => (solidR r1 x).bind fun v r2 => match mutAt r2 i with
      | some _ => (gk r2).bind fun y r3 =>
        match mutAt r3 i, deref r3 y with
        | some (.list xs), some (.int j) => match ixN xs.length j with
          | some m => .ok .nx (setAt r3 i (.list (xs.set m v)))
          | none => .stuck
        | _, _ => .stuck
      | none => .stuck) := by
  have hpa : ∀ v, assign (.Subscript (.Name x p2) k p3) X.env v = (do
      let ov ← holding [v] (eval (.Name x p2) X.env)
      let iv ← holding [v, ov] (eval k X.env)
      standAt p3
      holding [v, ov, iv] (setItem ov iv v)
      release [v, ov, iv] []) := by
    intro v
    cases k <;> first | rfl | (simp [plainIxB] at hk)
  have hsw : swappedStores [.Subscript (.Name x p2) k p3] e X.env = pure none := by
    cases e <;> rfl
  refine PS.imp (ps_asg he (pg_sub (pe_var hN hv hd hcd) hkk set_list hpa) (sws_no hs) hsw) fun D σ H ⟨F, r, s, fl, r', q, kk⟩ => ?_
  obtain ⟨xv, r1, e1, q⟩ := bind_inv q
  obtain ⟨v, r2, e2, q⟩ := bind_inv q
  refine ⟨F, r, s, xv, r1, e1, fun vv F1 H1 p1 t1 => ?_⟩
  obtain ⟨F2, pp2, h2, _⟩ := solid_post s p1 t1 (solidR_ok e2)
  split at q
  · rename_i d0 z0
    obtain ⟨y, r3, e3, q⟩ := bind_inv q
    obtain ⟨a, o, hσ, _⟩ := pp2.st.obj i d0 (mutAt_inv z0)
    refine ⟨_, hσ, F2, r2, pp2.st, y, r3, e3, fun yv F3 H3 p3 t3 => ?_⟩
    split at q
    · rename_i xs j z1 z2
      split at q
      · rename_i m hm
        cases q
        obtain ⟨a', o', hσ', ho, hf, hob⟩ := p3.st.obj i _ (mutAt_inv z1)
        rw [hσ] at hσ'
        cases hσ'
        obtain ⟨ys, rfl, rl⟩ := hob
        refine ⟨a, ys, j, m, rfl, (deref_rq p3.st t3 z2).int, ho, ?_, ?_⟩
        · rw [rl.length]
          exact hm
        · have hl : ObR X.K F3 (.lst (ys.set m vv)) (.list (xs.set m v)) := ⟨_, rfl, rl.set m (h2.mono p3.mono)⟩
          have st' := set_st (d := .list (xs.set m v)) p3.st (mutAt_inv z1) hσ hl
          have pp := pp2.trans p3
          have own_a : Own σ r a := pp.own a ⟨i, _, mutAt_inv z1, hσ⟩
          refine kk σ F3 _ ⟨st', pp.mono, Kp.then pp.frame own_a (by rw [ho]; first | exact pl_lst | exact pl_dK | exact pl_dT | exact pl_frz | exact pl_tup | exact pl_ob (by assumption)), fun b hb => ?_, pp.fr, fun b hb => .inl (pp.own b (own_setAt hb))⟩
          · exact dom_put (by first | exact pl_lst | exact pl_dK | exact pl_dT | exact pl_frz | exact pl_tup | exact pl_ob (by assumption) | exact pl_none) pp.dom b hb
      · cases q
    · cases q
  · cases q
theorem mrgK_inv {u k v d : D} (h : mrgK u k v = some d) : ∃ ps, u = .dict ps ∧ isKey k = true ∧ (ps.all fun p => isKey p.1) = true ∧ ps.length < SZ ∧ d = .dict (putD ps k v) := by
  cases u with
  | dict ps =>
    have h' : (if (isKey k && ps.all (fun p => isKey p.1) && decide (ps.length < SZ)) = true then some (PyData.dict (putD ps k v)) else none) = some d := h
    split at h'
    · rename_i hc
      simp only [Bool.and_eq_true, decide_eq_true_eq] at hc
      cases h'
      exact ⟨ps, rfl, hc.1.1, hc.1.2, hc.2, rfl⟩
    · cases h'
  | _ => cases h
theorem mrgS_inv {u v d : D} {ks : List D} (h : mrgS u ks v = some d) : ∃ ps, u = .dict ((.none, .int 0) :: ps) ∧ ks.all isKey = true ∧ ks.length ≤ SZ ∧ ps.length < SZ ∧ d = .dict (markT :: putT ps ks v) := by
  unfold mrgS at h
  split at h
  · rename_i ps
    split at h
    · rename_i hc
      simp only [Bool.and_eq_true, decide_eq_true_eq] at hc
      cases h
      exact ⟨_, rfl, hc.1.1, hc.1.2, hc.2, rfl⟩
    · cases h
  · cases h
theorem mrgP_inv {u k v d : D} (h : mrgP u k v = some d) : (∃ ks, k = .tuple ks ∧ isKeyT ks = true ∧ mrgS u ks v = some d) ∨ mrgK u k v = some d := by
  unfold mrgP at h
  split at h
  · split at h
    · rename_i ks hk
      exact .inl ⟨_, rfl, hk, h⟩
    · cases h
  · exact .inr h
/-- x[k] = value, x a dict -/
theorem rs_dst {i : Nat} {x : Str} {k : Expr} {p2 p3 : Pos} {gk : Env → Res TV} (hu : X.A.units + 1 < cLine) (hN : X.N[i]? = some x) (hv : Vis X.env.scope x) (hd : (x == ("__debug__" : Str)) = false) (hcd : (x == ("__classdict__" : Str)) = false) (hs : notComp e = true)
    (he : PE X e (RdE X.K B g)) (hkk : PE X k (RdE X.K B gk)) :
    PS X (.Assign [.Subscript (.Name x p2) k p3] e pos) (RdS X.K B fun r => (g r).bind fun x r1 => (solidR r1 x).bind fun v r2 => match mutAt r2 i with
      | some _ => (gk r2).bind fun y r3 => match mutAt r3 i, deref r3 y with
        | some u, some kd => match mrgP u kd v with
          | some d => .ok .nx (setAt r3 i d)
          | none => .stuck
        | _, _ => .stuck
      | none => .stuck) := by
  refine PS.imp (ps_dput hu (pe_var hN hv hd hcd) hkk he (sw_no hs)) fun D σ H ⟨F, r, s, fl, r', q, kk⟩ => ?_
  obtain ⟨xv, r1, e1, q⟩ := bind_inv q
  obtain ⟨v, r2, e2, q⟩ := bind_inv q
  refine ⟨F, r, s, xv, r1, e1, fun vv F1 H1 p1 t1 => ?_⟩
  obtain ⟨F2, pp2, h2, _⟩ := solid_post s p1 t1 (solidR_ok e2)
  split at q
  · rename_i d0 z0
    obtain ⟨y, r3, e3, q⟩ := bind_inv q
    obtain ⟨a, o, hσ, _⟩ := pp2.st.obj i d0 (mutAt_inv z0)
    refine ⟨_, hσ, F2, r2, pp2.st, y, r3, e3, fun yv F3 H3 p3 t3 => ?_⟩
    split at q
    · rename_i u kd z1 z2
      split at q
      · rename_i nd hm
        cases q
        rcases mrgP_inv hm with ⟨ks, rfl, hk, hm⟩ | hm
        · skip
          obtain ⟨ps, rfl, c1, c0, c3, rfl⟩ := mrgS_inv hm
          obtain ⟨a', o', hσ', ho, hf, hob⟩ := p3.st.obj i _ (mutAt_inv z1)
          rw [hσ] at hσ'
          cases hσ'
          obtain ⟨a2, kvs, ea2, ho2, rk⟩ := ditO ho hob
          cases ea2
          rw [ho] at ho2
          cases ho2
          obtain ⟨b, kq, rfl, hb, rfl⟩ := Rq.ktup p3.st.sub (deref_rq p3.st t3 z2) hk
          have hl : kvs.length < sizeLine := by rw [rk.length, ← szl]; exact c3
          refine ⟨a, _, rfl, DPut.t ho hb hl, ?_⟩
          have hl : ObR X.K F3 (.dT (putK kvs kq vv)) (.dict (markT :: putT ps (kq.map keyD) v)) := .inr ⟨_, _, rfl, rfl, rk.put kq (h2.mono p3.mono)⟩
          have st' := set_st (d := .dict (markT :: putT ps (kq.map keyD) v)) p3.st (mutAt_inv z1) hσ hl
          have pp := pp2.trans p3
          have own_a : Own σ r a := pp.own a ⟨i, _, mutAt_inv z1, hσ⟩
          refine kk σ F3 _ ⟨st', pp.mono, Kp.then pp.frame own_a (by rw [ho]; first | exact pl_lst | exact pl_dK | exact pl_dT | exact pl_frz | exact pl_tup | exact pl_ob (by assumption)), fun b hb => ?_, pp.fr, fun b hb => .inl (pp.own b (own_setAt hb))⟩
          · exact dom_put (by first | exact pl_lst | exact pl_dK | exact pl_dT | exact pl_frz | exact pl_tup | exact pl_ob (by assumption) | exact pl_none) pp.dom b hb
        · skip
          obtain ⟨ps, rfl, c1, c2, c3, rfl⟩ := mrgK_inv hm
          obtain ⟨a', o', hσ', ho, hf, hob⟩ := p3.st.obj i _ (mutAt_inv z1)
          rw [hσ] at hσ'
          cases hσ'
          obtain ⟨kvs, rfl, rk⟩ : ∃ kvs, o' = .dK kvs ∧ RpK X.K F3 kvs ps := by
            rcases hob with ⟨kvs, e3, h2⟩ | ⟨kvs, qs, e0, e3, h2⟩
            · exact ⟨kvs, e3, h2⟩
            · subst e0
              simp [isKey] at c2
          obtain ⟨kq, rfl⟩ := key_of_isKey c1
          have ey := rq_key (deref_rq p3.st t3 z2)
          subst ey
          have hl : kvs.length < sizeLine := by rw [rk.length, ← szl]; exact c3
          refine ⟨a, _, rfl, DPut.k ho hl, ?_⟩
          have hl : ObR X.K F3 (.dK (putK kvs kq vv)) (.dict (putD ps (keyD kq) v)) := .inl ⟨_, rfl, rk.put kq (h2.mono p3.mono)⟩
          have st' := set_st (d := .dict (putD ps (keyD kq) v)) p3.st (mutAt_inv z1) hσ hl
          have pp := pp2.trans p3
          have own_a : Own σ r a := pp.own a ⟨i, _, mutAt_inv z1, hσ⟩
          refine kk σ F3 _ ⟨st', pp.mono, Kp.then pp.frame own_a (by rw [ho]; first | exact pl_lst | exact pl_dK | exact pl_dT | exact pl_frz | exact pl_tup | exact pl_ob (by assumption)), fun b hb => ?_, pp.fr, fun b hb => .inl (pp.own b (own_setAt hb))⟩
          · exact dom_put (by first | exact pl_lst | exact pl_dK | exact pl_dT | exact pl_frz | exact pl_tup | exact pl_ob (by assumption) | exact pl_none) pp.dom b hb
      · cases q
    · cases q
  · cases q
/-- x[k, ..] = value, x a dict -/
theorem rs_tst {i : Nat} {x : Str} {es : List Expr} {ctx : Nat} {p2 p3 p4 : Pos} {l : Env → Res (List D)} (hu : X.A.units + 1 < cLine) (hN : X.N[i]? = some x) (hv : Vis X.env.scope x) (hd : (x == ("__debug__" : Str)) = false) (hcd : (x == ("__classdict__" : Str)) = false) (hs : notComp e = true)
    (he : PE X e (RdE X.K B g)) (hkk : PA X es (RdA X.K B l)) :
    PS X (.Assign [.Subscript (.Name x p2) (.Tuple es ctx p4) p3] e pos) (RdS X.K B fun r => (g r).bind fun x r1 => (solidR r1 x).bind fun v r2 => match mutAt r2 i with
      | some _ => (l r2).bind fun ds r3 => match mutAt r3 i with
        | some u => match mrgS u ds v with
          | some d => .ok .nx (setAt r3 i d)
          | none => .stuck
        | none => .stuck
      | none => .stuck) := by
  refine PS.imp (ps_dput hu (pe_var hN hv hd hcd) (pe_tup hkk) he (sw_no hs)) fun D σ H ⟨F, r, s, fl, r', q, kk⟩ => ?_
  obtain ⟨xv, r1, e1, q⟩ := bind_inv q
  obtain ⟨v, r2, e2, q⟩ := bind_inv q
  refine ⟨F, r, s, xv, r1, e1, fun vv F1 H1 p1 t1 => ?_⟩
  obtain ⟨F2, pp2, h2, _⟩ := solid_post s p1 t1 (solidR_ok e2)
  split at q
  · rename_i d0 z0
    obtain ⟨ds, r3, e3, q⟩ := bind_inv q
    obtain ⟨a, o, hσ, _⟩ := pp2.st.obj i d0 (mutAt_inv z0)
    split at q
    · rename_i u z1
      split at q
      · rename_i nd hm
        cases q
        obtain ⟨ps, rfl, c1, c0, c3, rfl⟩ := mrgS_inv hm
        refine ⟨_, hσ, F2, r2, pp2.st, ds, r3, e3, fun xs F3 H3 p3 rl => ⟨by rw [rl.length, ← szl]; exact c0, fun b hb => ?_⟩⟩
        obtain ⟨a', o', hσ', ho, hf, hob⟩ := p3.st.obj i _ (mutAt_inv z1)
        rw [hσ] at hσ'
        cases hσ'
        obtain ⟨a2, kvs, ea2, ho2, rk⟩ := ditO ho hob
        cases ea2
        rw [ho] at ho2
        cases ho2
        obtain ⟨kq, e6, e7⟩ := keysL rl c1
        subst e6 e7
        have hl : kvs.length < sizeLine := by rw [rk.length, ← szl]; exact c3
        have hba : b ≠ a := fun z => by rw [z, ho] at hb; cases hb
        have ho' : upd H3 b (.tup (kq.map kV)) a = some (.dT kvs) := by rw [upd_ne (Ne.symm hba)]; exact ho
        refine ⟨a, _, rfl, DPut.t ho' upd_same hl, ?_⟩
        have lb := laid (o := .tup (kq.map kV)) p3.st hb
        have hl : ObR X.K F3 (.dT (putK kvs kq vv)) (.dict (markT :: putT ps (kq.map keyD) v)) := .inr ⟨_, _, rfl, rfl, rk.put kq (h2.mono p3.mono)⟩
        have st' := set_st (d := .dict (markT :: putT ps (kq.map keyD) v)) lb.st (mutAt_inv z1) hσ hl
        have pp := (pp2.trans p3).trans lb
        have own_a : Own σ r a := pp.own a ⟨i, _, mutAt_inv z1, hσ⟩
        refine kk σ F3 _ ⟨st', pp.mono, Kp.then pp.frame own_a (pl_at ho' pl_dT), fun b hb => ?_, pp.fr, fun b hb => .inl (pp.own b (own_setAt hb))⟩
        · exact dom_put (by first | exact pl_lst | exact pl_dK | exact pl_dT | exact pl_frz | exact pl_tup | exact pl_ob (by assumption) | exact pl_none) pp.dom b hb
      · cases q
    · cases q
  · cases q
/-- x.append(value) -/
theorem rs_app {i : Nat} {x : Str} {p2 ap cp : Pos} (hN : X.N[i]? = some x) (hv : Vis X.env.scope x) (hd : (x == ("__debug__" : Str)) = false) (hcd : (x == ("__classdict__" : Str)) = false) (hl : (ap.endLine == cp.line) = true) (hp : plainE e = true)
    (he : PE X e (RdE X.K B g)) :
    PS X (.Expr (.Call (.Attribute (.Name x p2) "append" ap) [e] [] cp) pos) (RdS X.K B fun r => match mutAt r i with
    | some (.list _) => (g r).bind fun x r1 => (solidR r1 x).bind fun v r2 => match mutAt r2 i with
      | some (.list xs) => if xs.length < SZ then .ok .nx (setAt r2 i (.list (xs ++ [v]))) else .stuck
      | _ => .stuck
    | _ => .stuck) := by
  refine PS.imp (ps_expr (pe_bm PySem.F.plainAttrs_list PySem.F.slot_list_append PySem.F.type_list_append mt_append (pe_var hN hv hd hcd) (pa_cons he pa_nil (star_cons hp)) rfl (by rw [back_one hp]; rfl) hl (star_cons hp) rfl)) fun D σ H ⟨F, r, s, fl, r', q, kk⟩ => ?_
  dsimp only at q
  split at q
  · rename_i xs0 z0
    obtain ⟨xv, r1, e1, q⟩ := bind_inv q
    obtain ⟨v, r2, e2, q⟩ := bind_inv q
    obtain ⟨a, o, hσ, ho0, _, hob0⟩ := s.obj i _ (mutAt_inv z0)
    obtain ⟨ys0, rfl, _⟩ := hob0
    refine ⟨_, hσ, .inl ⟨rfl, ys0, SqL.of ho0⟩, F, r, s, xv, r1, e1, fun vv F1 H1 p1 t1 => ?_⟩
    obtain ⟨F2, pp, h2, _⟩ := solid_post s p1 t1 (solidR_ok e2)
    split at q
    · rename_i xs z1
      split at q
      · rename_i wl
        cases q
        obtain ⟨a', o', hσ', ho, hf, hob⟩ := pp.st.obj i _ (mutAt_inv z1)
        rw [hσ] at hσ'
        cases hσ'
        obtain ⟨ys, rfl, rl⟩ := hob
        refine ⟨a, ys, vv, rfl, rfl, ho, by rw [rl.length, ← szl]; exact wl, ?_⟩
        have hl : ObR X.K F2 (.lst (ys ++ [vv])) (.list (xs ++ [v])) := ⟨_, rfl, rl.append (.cons h2 .nil)⟩
        have st' := set_st (d := .list (xs ++ [v])) pp.st (mutAt_inv z1) hσ hl
        have own_a : Own σ r a := pp.own a ⟨i, _, mutAt_inv z1, hσ⟩
        refine kk σ F2 _ ⟨st', pp.mono, Kp.then pp.frame own_a (by rw [ho]; first | exact pl_lst | exact pl_dK | exact pl_dT | exact pl_frz | exact pl_tup | exact pl_ob (by assumption)), fun b hb => ?_, pp.fr, fun b hb => .inl (pp.own b (own_setAt hb))⟩
        · exact dom_put (by first | exact pl_lst | exact pl_dK | exact pl_dT | exact pl_frz | exact pl_tup | exact pl_ob (by assumption) | exact pl_none) pp.dom b hb
      · cases q
    · cases q
  · cases q
end
end Ev

end
section
set_option linter.all false
set_option maxHeartbeats 4000000
/-! a, b = x, y -/
namespace Ev
open PySem PySem.Spec PyProof.Rows L2
/-- values, the new objects at ps -/
inductive TvL (K : Fg) (F H : Hp) : List TV → List V → List Addr → Prop
  | nil : TvL K F H [] [] []
  | d {d : D} {v : V} {ts : List TV} {vs : List V} {ps : List Addr} : Rp K F v d → TvL K F H ts vs ps → TvL K F H (.d d :: ts) (v :: vs) ps
  | f {d : D} {p : Addr} {o : HO} {ts : List TV} {vs : List V} {ps : List Addr} : H p = some o → F p = none → ObR K F o d → p ∉ ps → TvL K F H ts vs ps → TvL K F H (.f d :: ts) (.ref p :: vs) (p :: ps)
theorem TvL.len {K : Fg} {F H : Hp} : ∀ {ts : List TV} {vs : List V} {ps : List Addr}, TvL K F H ts vs ps → vs.length = ts.length
  | _, _, _, .nil => rfl
  | _, _, _, .d _ r => by rw [List.length_cons, List.length_cons, r.len]
  | _, _, _, .f _ _ _ _ r => by rw [List.length_cons, List.length_cons, r.len]
theorem TvL.keep {K : Fg} {F H F' H' : Hp} (m : Sub F F') : ∀ {ts : List TV} {vs : List V} {ps : List Addr}, TvL K F H ts vs ps → (∀ p ∈ ps, ∀ o, H p = some o → H' p = some o) → (∀ p ∈ ps, F' p = none) → TvL K F' H' ts vs ps
  | _, _, _, .nil, _, _ => .nil
  | _, _, _, .d h r, a, b => .d (h.mono m) (r.keep m a b)
  | _, _, _, .f h1 h2 h3 h4 r, a, b => .f (a _ List.mem_cons_self _ h1) (b _ List.mem_cons_self) (h3.mono m) h4 (r.keep m (fun p hp => a p (List.mem_cons_of_mem _ hp)) fun p hp => b p (List.mem_cons_of_mem _ hp))
theorem TvL.fnone {K : Fg} {F H : Hp} : ∀ {ts : List TV} {vs : List V} {ps : List Addr}, TvL K F H ts vs ps → ∀ p ∈ ps, F p = none
  | _, _, _, .nil, p, hp => nomatch hp
  | _, _, _, .d _ r, p, hp => r.fnone p hp
  | _, _, _, .f _ h2 _ _ r, p, hp => by
    rcases List.mem_cons.mp hp with rfl | hp
    · exact h2
    · exact r.fnone p hp
def RdF (K : Fg) (B : Bs) (g : Env → Res (List TV)) : TA := fun σ H Q => ∃ F r, StR K B F H σ r ∧ ∃ t r', g r = .ok t r' ∧ ∀ xs ps F' H', Post K B σ r F H r' F' H' → TvL K F' H' t xs ps → (∀ p ∈ ps, nT H p = none) → Q xs H'
section
variable {X : Cx} {B : Bs} {pos : Pos} {e a : Expr} {f g : Env → Res TV}
theorem rf_nil : PA X [] (RdF X.K B fun r => .ok [] r) := PA.imp pa_nil fun σ H Q ⟨F, r, s, t, r', e, k⟩ => by
  cases e
  exact k [] [] F H (Post.refl s) .nil fun p hp => nomatch hp
theorem rf_cons {es : List Expr} {fa : Env → Res (List TV)} (ha : PE X a (RdE X.K B f)) (hr : PA X es (RdF X.K B fa)) (hs : starEach (a :: es) X.env = (false, eval a X.env) :: starEach es X.env) :
    PA X (a :: es) (RdF X.K B fun r => (f r).bind fun x r1 => match x with
      | .f v => (fa r1).bind fun vs r3 => .ok (.f v :: vs) r3
      | x => (solidR r1 x).bind fun v r2 => (fa r2).bind fun vs r3 => .ok (.d v :: vs) r3) := by
  refine PA.imp (pa_cons ha hr hs) fun σ H Q ⟨F, r, s, t, r', e, k⟩ => ?_
  obtain ⟨x, r1, e1, e⟩ := bind_inv e
  refine ⟨F, r, s, x, r1, e1, fun xv F1 H1 p1 t1 => ?_⟩
  have sol : ∀ (e : ((solidR r1 x).bind fun v r2 => (fa r2).bind fun vs r3 => Res.ok (TV.d v :: vs) r3) = .ok t r'), RdF X.K B fa σ H1 fun xs H' => Q (xv :: xs) H' := fun e => by
    obtain ⟨v, r2, e2, e⟩ := bind_inv e
    obtain ⟨vs, r3, e3, e⟩ := bind_inv e
    cases e
    obtain ⟨F2, p2, h2, m2⟩ := solid_post s p1 t1 (solidR_ok e2)
    exact ⟨F2, r2, p2.st, vs, r', e3, fun xs ps F3 H3 p3 h3 n3 => k (xv :: xs) ps F3 H3 (p2.trans p3) (.d (h2.mono p3.mono) h3) fun p hp => Classical.byContradiction fun n => p2.dom p n (n3 p hp)⟩
  split at e
  · obtain ⟨vs, r3, e3, e⟩ := bind_inv e
    cases e
    refine ⟨F1, r1, p1.st, vs, r', e3, fun xs ps F3 H3 p3 h3 n3 => ?_⟩
    have t3 := t1.keep p3 (p1.ne s)
    obtain ⟨q, o, rfl, q1, q2, q3, q4⟩ := t3
    obtain ⟨q', o', z, z1, _, zr, _⟩ := t1
    cases z
    refine k (.ref q :: xs) (q :: ps) F3 H3 (p1.trans p3) (.f q1 q2 q3 (fun hp => ?_) h3) fun p hp => ?_
    · exact (nT_no (n3 q hp) z1 fun ps z => (pl_ob zr).1 ps (by rw [z])).elim
    · rcases List.mem_cons.mp hp with rfl | hp
      · exact q4
      · exact Classical.byContradiction fun n => p1.dom p n (n3 p hp)
  · exact sol e
end
/-- behind stores of values, the new objects at ps -/
structure AsT (K : Fg) (B : Bs) (H : Hp) (ps : List Addr) (σ : L2.St) (r : Env) (F : Hp) (σ' : L2.St) (r' : Env) (F' : Hp) : Prop where
  st : StR K B F' H σ' r'
  mono : Sub F F'
  fr : ∀ a, F' a ≠ none → F a ≠ none ∨ a ∈ ps
  own : ∀ a, Own σ' r' a → Own σ r a ∨ a ∈ ps
section
variable {K : Fg} {B : Bs} {σ σ' σ2 : L2.St} {r r' r2 : Env} {F H F' F2 : Hp}
theorem AsT.trans {ps qs : List Addr} (a : AsT K B H ps σ r F σ' r' F') (b : AsT K B H qs σ' r' F' σ2 r2 F2) : AsT K B H (ps ++ qs) σ r F σ2 r2 F2 :=
  ⟨b.st, a.mono.trans b.mono, fun c h => (b.fr c h).elim (fun z => (a.fr c z).imp id fun q => List.mem_append_left _ q) fun z => .inr (List.mem_append_right _ z),
    fun c h => (b.own c h).elim (fun z => (a.own c z).imp id fun q => List.mem_append_left _ q) fun z => .inr (List.mem_append_right _ z)⟩
theorem AsT.refl (s : StR K B F H σ r) : AsT K B H [] σ r F σ r F := ⟨s, Sub.refl _, fun _ h => .inl h, fun _ h => .inl h⟩
theorem AsT.go {ps : List Addr} (a : AsT K B H ps σ r F σ' r' F') {σ0 : L2.St} {r0 : Env} {F0 H0 : Hp} (p : Go K B σ0 r0 F0 H0 σ r F H) (h : ∀ q ∈ ps, nT H0 q = none) : Go K B σ0 r0 F0 H0 σ' r' F' H :=
  ⟨a.st, p.mono.trans a.mono, p.frame, p.dom, fun c hc => (a.fr c hc).elim (p.fr c) fun z => .inr (.inl (.inl (h c z))), fun c hc => (a.own c hc).elim (p.own c) fun z => .inr (h c z)⟩
/-- one name's store -/
theorem asn1_tv {x : TV} {v : V} {ps : List Addr} {i : Nat} {m : Bool} (s : StR K B F H σ r) (t : TvL K F H [x] [v] ps) (no : ∀ p ∈ ps, ¬ Own σ r p ∧ nT B.h p = none) (e : asn1 i m x r = .ok () r') : ∃ F', AsT K B H ps σ r F (σ.set i (some v)) r' F' := by
  unfold asn1 at e
  split at e
  · cases e
  · cases e
  · cases e
  · rename_i sl nb nl hs
    cases t with
    | d h _ =>
      cases m with
      | true => rw [if_pos rfl] at e; cases e
      | false =>
        rw [if_neg (by decide)] at e
        cases e
        exact ⟨F, asn_val s h hs, Sub.refl _, fun _ q => .inl q, fun a q => .inl (own_sub q)⟩
    | @f d p o _ _ ps h1 h2 h3 h4 rest =>
      obtain ⟨n1, n2⟩ := no p List.mem_cons_self
      cases m with
      | true =>
        rw [if_pos rfl] at e
        cases e
        obtain ⟨st', ow'⟩ := asn_own s h1 h2 h3 n1 n2 hs
        exact ⟨F, st', Sub.refl _, fun _ q => .inl q, fun a q => (ow' a q).imp id fun z => by rw [z]; exact List.mem_cons_self⟩
      | false =>
        rw [if_neg (by decide)] at e
        cases e
        have st1 := freeze (H0 := B.h) s h1 h2 n1 (pl_ob h3)
        refine ⟨upd F p o, asn_val st1 ((h3.mono (sub_upd h2)).rp upd_same) hs, sub_upd h2, fun a q => ?_, fun a q => .inl (own_sub q)⟩
        rcases upd_some q with z | z
        · exact .inr (by rw [z]; exact List.mem_cons_self)
        · exact .inl z
end
def RdT (K : Fg) (B : Bs) (t : IT) : TG := fun v σ H Q => ∃ F r x ps, StR K B F H σ r ∧ TvL K F H [x] [v] ps ∧ (∀ p ∈ ps, ¬ Own σ r p ∧ nT B.h p = none) ∧ ∃ r', asn t x r = .ok () r' ∧ ∀ σ' F', AsT K B H ps σ r F σ' r' F' → Q σ' H
def RdTs (K : Fg) (B : Bs) (t : List IT) : TGs := fun vs σ H Q => ∃ F r xs ps, StR K B F H σ r ∧ TvL K F H xs vs ps ∧ (∀ p ∈ ps, ¬ Own σ r p ∧ nT B.h p = none) ∧ ∃ r', asnP t xs r = .ok () r' ∧ ∀ σ' F', AsT K B H ps σ r F σ' r' F' → Q σ' H
section
variable {X : Cx} {B : Bs} {pos : Pos}
theorem rt_name {i : Nat} {x : Str} {m : Bool} (hN : X.N.Nodup) (hi : X.N[i]? = some x) (hx : Loc X.env.scope x) (hf : X.fn x = true ∨ X.env.scope.names.lookup x = some .local) : PG X (.Name x pos) (RdT X.K B (.n i m)) := by
  refine PG.weak (pg_name hN hi hx hf) fun v σ H Q ⟨F, r, x, ps, st, hv, no, r', e, k⟩ => ?_
  obtain ⟨F', a⟩ := asn1_tv st hv no e
  exact k _ F' a
theorem rt_tup {e : Expr} {l : List IT} (h : PG X e (RdG X.K B (.t l))) : PG X e (RdT X.K B (.t l)) := by
  refine PG.weak h fun v σ H Q ⟨F, r, x, ps, st, hv, no, r', e, k⟩ => ?_
  cases hv with
  | d h rest =>
    cases rest
    refine ⟨F, r, _, st, h, r', e, fun σ' a => k σ' F ⟨a.st, Sub.refl _, fun _ q => .inl q, fun c q => .inl (a.own c q)⟩⟩
  | @f d p o _ _ _ h1 h2 h3 h4 rest =>
    unfold asn at e
    split at e
    · rename_i xs q
      cases (show some d = some (PyData.tuple xs) from q)
      exact absurd h3 (fun z => z)
    · rename_i xs q
      cases (show some d = some (PyData.list xs) from q)
      rw [if_neg (by simp [isSl])] at e
      obtain ⟨ys, rfl, rl⟩ := h3
      obtain ⟨n1, n2⟩ := no p List.mem_cons_self
      cases rest
      have st1 := freeze (H0 := B.h) st h1 h2 n1 pl_lst
      have hv : Rp X.K (upd F p (.lst ys)) (.ref p) (.list xs) := .lst upd_same (rl.mono (sub_upd h2))
      refine ⟨upd F p (.lst ys), r, .list xs, st1, hv, r', e, fun σ' a => k σ' (upd F p (.lst ys)) ⟨a.st, sub_upd h2, fun c z => ?_, fun c z => .inl (a.own c z)⟩⟩
      rcases upd_some z with z | z
      · exact .inr (by rw [z]; exact List.mem_cons_self)
      · exact .inl z
    · cases e
theorem rts_nil : PGs X [] (RdTs X.K B []) := by
  refine PGs.weak pgs_nil fun vs σ H Q ⟨F, r, xs, ps, st, hv, no, r', e, k⟩ => ?_
  cases hv with
  | nil =>
    cases (show Res.ok () r = Res.ok () r' from e)
    exact ⟨rfl, k σ F (AsT.refl st)⟩
  | d _ _ => cases (show (Res.stuck : Res Unit) = Res.ok () r' from e)
  | f _ _ _ _ _ => cases (show (Res.stuck : Res Unit) = Res.ok () r' from e)
theorem rts_cons {e : Expr} {es : List Expr} {t : IT} {ts : List IT} (hp : plainE e = true) (h1 : PG X e (RdT X.K B t)) (h2 : PGs X es (RdTs X.K B ts)) : PGs X (e :: es) (RdTs X.K B (t :: ts)) := by
  refine PGs.weak (pgs_cons h1 h2 (by rw [each_cons hp]; rfl)) fun vs σ H Q ⟨F, r, xs, ps, st, hv, no, r', e, k⟩ => ?_
  cases hv with
  | nil => cases (show (Res.stuck : Res Unit) = Res.ok () r' from e)
  | @d d v ts' vs ps h rest =>
    obtain ⟨_, r1, e1, e2⟩ := bind_inv (show (asn t (.d d) r).bind (fun _ r' => asnP ts ts' r') = Res.ok () r' from e)
    refine ⟨v, vs, rfl, F, r, .d d, [], st, .d h .nil, (fun p hp => nomatch hp), r1, e1, fun σ1 F1 a1 => ?_⟩
    have nf : ∀ p ∈ ps, F1 p = none := fun p hp => by
      cases z : F1 p with
      | none => rfl
      | some u =>
        rcases a1.fr p (by rw [z]; simp) with w | w
        · exact absurd (TvL.fnone rest p hp) w
        · exact nomatch w
    refine ⟨F1, r1, ts', ps, a1.st, rest.keep a1.mono (fun _ _ _ q => q) nf, fun p hp => ⟨fun z => ?_, (no p hp).2⟩, r', e2, fun σ2 F2 a2 => k σ2 F2 (by simpa using a1.trans a2)⟩
    rcases a1.own p z with w | w
    · exact (no p hp).1 w
    · exact nomatch w
  | @f d p o ts' vs ps h1 h2 h3 h4 rest =>
    obtain ⟨_, r1, e1, e2⟩ := bind_inv (show (asn t (.f d) r).bind (fun _ r' => asnP ts ts' r') = Res.ok () r' from e)
    refine ⟨_, vs, rfl, F, r, .f d, [p], st, .f h1 h2 h3 (fun z => nomatch z) .nil, fun q hq => ?_, r1, e1, fun σ1 F1 a1 => ?_⟩
    · rcases List.mem_cons.mp hq with rfl | hq
      · exact no _ List.mem_cons_self
      · exact nomatch hq
    have nf : ∀ q ∈ ps, F1 q = none := fun q hq => by
      cases z : F1 q with
      | none => rfl
      | some u =>
        rcases a1.fr q (by rw [z]; simp) with w | w
        · exact absurd (TvL.fnone rest q hq) w
        · rcases List.mem_cons.mp w with rfl | w
          · exact absurd hq h4
          · exact nomatch w
    refine ⟨F1, r1, ts', ps, a1.st, rest.keep a1.mono (fun _ _ _ q => q) nf, fun q hq => ⟨fun z => ?_, (no q (List.mem_cons_of_mem _ hq)).2⟩, r', e2, fun σ2 F2 a2 => k σ2 F2 (by simpa using a1.trans a2)⟩
    rcases a1.own q z with w | w
    · exact (no q (List.mem_cons_of_mem _ hq)).1 w
    · rcases List.mem_cons.mp w with rfl | w
      · exact absurd hq h4
      · exact nomatch w
end
end Ev

end
section
set_option linter.all false
set_option maxHeartbeats 4000000
namespace Ev
open PySem PySem.Spec PyProof.Rows L2
def lineOf (ts : List Expr) : Nat := (ts.head?.map (·.pos.line)).getD 0
def namesOf (kd : Str → Option NameKind) (line : Nat) (ts : List Expr) : List Str := ts.filterMap fun
    | .Name id pos => if kd id == some .local && pos.line == line then some id else none
    | _ => none
def swapP (kd : Str → Option NameKind) (bk : ScopeKind) (ts vs : List Expr) : Option (Option (List Str)) :=
  if (!(ts.length == 2 || ts.length == 3) || vs.length != ts.length || bk != .function) = true then some none
  else if (vs.any fun | .Starred .. => true | _ => false) = true then some none
  else if ((namesOf kd (lineOf ts) ts).length != ts.length || (namesOf kd (lineOf ts) ts).eraseDups.length != (namesOf kd (lineOf ts) ts).length) = true then some none
  else if vs.all (foldedForSure 8) = true then some none
  else if vs.all (constantsAlone 8) = true then none
  else some (some (namesOf kd (lineOf ts) ts))
theorem swap_ok {env : PySem.Env} {ts vs : List Expr} {kt k2 : Nat} {p p2 : Pos} {o : Option (List Str)} (h : swapP env.kindOf env.blockKind ts vs = some o) : swappedStores [.Tuple ts kt p] (.Tuple vs k2 p2) env = pure o := by
  unfold swapP at h
  unfold swappedStores
  dsimp only
  split at h
  · rename_i w
    cases h
    exact if_pos w
  · rename_i w
    refine Eq.trans (if_neg w) ?_
    split at h
    · rename_i w
      cases h
      exact if_pos w
    · rename_i w
      refine Eq.trans (if_neg w) ?_
      split at h
      · rename_i w
        cases h
        exact if_pos w
      · rename_i w
        refine Eq.trans (if_neg w) ?_
        split at h
        · rename_i w
          cases h
          exact if_pos w
        · rename_i w
          refine Eq.trans (if_neg w) ?_
          split at h
          · cases h
          · rename_i w
            cases h
            exact if_neg w
theorem swap_none {env : PySem.Env} {sc : Scope} {ts vs : List Expr} {kt k2 : Nat} {p p2 : Pos} {o : Option (List Str)} (e : env.scope = sc) (hk : sc.kind = .function) (h : swapP (fun x => sc.names.lookup x) .function ts vs = some o) : swappedStores [.Tuple ts kt p] (.Tuple vs k2 p2) env = pure o := by
  subst e
  have hb : env.blockKind = .function := by unfold Env.blockKind; rw [hk]; rfl
  refine swap_ok ?_
  rw [hb]
  exact h
section
variable {X : Cx} {B : Bs} {pos : Pos}
theorem asnP_len : ∀ {ts : List IT} {xs : List TV} {r r' : Env}, asnP ts xs r = .ok () r' → xs.length = ts.length
  | [], [], _, _, _ => rfl
  | [], _ :: _, r, r', e => by cases (show (Res.stuck : Res Unit) = Res.ok () r' from e)
  | _ :: _, [], r, r', e => by cases (show (Res.stuck : Res Unit) = Res.ok () r' from e)
  | t :: ts, x :: xs, r, r', e => by
    obtain ⟨_, r1, _, e2⟩ := bind_inv (show (asn t x r).bind (fun _ r' => asnP ts xs r') = Res.ok () r' from e)
    rw [List.length_cons, List.length_cons, asnP_len e2]
theorem rs_asp {es vs : List Expr} {kt k2 : Nat} {p2 p3 : Pos} {ts : List IT} {g : Env → Res (List TV)} (hc : X.calm = true) (hp : es.all plainE = true) (hlen : es.length = ts.length) (hw : swappedStores [.Tuple es kt p2] (.Tuple vs k2 p3) X.env = pure none)
    (ha : PA X vs (RdF X.K B g)) (hg : PGs X es (RdTs X.K B ts)) :
    PS X (.Assign [.Tuple es kt p2] (.Tuple vs k2 p3) pos) (RdS X.K B fun r => (g r).bind fun xs r1 => if xs.length ≤ SZ then (asnP ts xs r1).bind fun _ r2 => .ok .nx r2 else .stuck) :=
  PS.imp (ps_asg (pe_tup ha) (pg_tup hc hg (each_len hp).1 (each_len hp).2) (sws_no rfl) hw) fun D σ H ⟨F, r, s, fl, r', q, k⟩ => by
    obtain ⟨tvs, r1, e1, q⟩ := bind_inv q
    split at q
    · rename_i wl
      obtain ⟨_, r2, e2, q⟩ := bind_inv q
      cases q
      refine ⟨F, r, s, tvs, r1, e1, fun xs ps F1 H1 p1 h1 n1 => ⟨by rw [h1.len, ← szl]; exact wl, fun p hp => ?_⟩⟩
      have lp := laid (o := .tup xs) p1.st hp
      refine ⟨p, xs, rfl, SqT.of upd_same, by rw [h1.len, asnP_len e2, hlen], F1, r1, tvs, ps, lp.st, h1.keep (Sub.refl _) (fun q _ o ho => ?_) (fun q hq => h1.fnone q hq), fun q hq => ⟨fun z => p1.ne s q z (n1 q hq), Classical.byContradiction fun n => s.dom.at_ q n (n1 q hq)⟩, r', e2, fun σ' F' a => ?_⟩
      · rw [upd_ne (ne_of_none ho hp)]; exact ho
      · exact k σ' F' _ (a.go (p1.trans lp).go n1)
    · cases q
theorem len2 {α : Type} {l : List α} (h : l.length = 2) : ∃ a b, l = [a, b] := by
  match l, h with
  | [a, b], _ => exact ⟨a, b, rfl⟩
theorem len3 {α : Type} {l : List α} (h : l.length = 3) : ∃ a b c, l = [a, b, c] := by
  match l, h with
  | [a, b, c], _ => exact ⟨a, b, c, rfl⟩
/-- a first store, then the rest -/
theorem step_tv {K : Fg} {B : Bs} {σ : L2.St} {r r1 : Env} {F H : Hp} {i : Nat} {m : Bool} {x : TV} {ts : List TV} {v : V} {vs : List V} {ps : List Addr} (s : StR K B F H σ r) (t : TvL K F H (x :: ts) (v :: vs) ps) (no : ∀ p ∈ ps, ¬ Own σ r p ∧ nT B.h p = none) (e : asn1 i m x r = .ok () r1) :
    ∃ qs rs F1, ps = qs ++ rs ∧ AsT K B H qs σ r F (σ.set i (some v)) r1 F1 ∧ TvL K F1 H ts vs rs ∧ ∀ p ∈ rs, ¬ Own (σ.set i (some v)) r1 p ∧ nT B.h p = none := by
  cases t with
  | @d d v ts' vs ps h rest =>
    obtain ⟨F1, a1⟩ := asn1_tv s (.d h .nil) (fun p hp => nomatch hp) e
    have nf : ∀ p ∈ ps, F1 p = none := fun p hp => by
      cases z : F1 p with
      | none => rfl
      | some u =>
        rcases a1.fr p (by rw [z]; simp) with w | w
        · exact absurd (TvL.fnone rest p hp) w
        · exact nomatch w
    refine ⟨[], ps, F1, rfl, a1, rest.keep a1.mono (fun _ _ _ q => q) nf, fun p hp => ⟨fun z => ?_, (no p hp).2⟩⟩
    rcases a1.own p z with w | w
    · exact (no p hp).1 w
    · exact nomatch w
  | @f d p o ts' vs ps h1 h2 h3 h4 rest =>
    obtain ⟨F1, a1⟩ := asn1_tv (ps := [p]) s (.f h1 h2 h3 (List.not_mem_nil) .nil) (fun q hq => by
      rcases List.mem_cons.mp hq with rfl | hq
      · exact no _ List.mem_cons_self
      · exact nomatch hq) e
    have nf : ∀ q ∈ ps, F1 q = none := fun q hq => by
      cases z : F1 q with
      | none => rfl
      | some u =>
        rcases a1.fr q (by rw [z]; simp) with w | w
        · exact absurd (TvL.fnone rest q hq) w
        · rcases List.mem_cons.mp w with rfl | w
          · exact absurd hq h4
          · exact nomatch w
    refine ⟨[p], ps, F1, rfl, a1, rest.keep a1.mono (fun _ _ _ q => q) nf, fun q hq => ⟨fun z => ?_, (no q (List.mem_cons_of_mem _ hq)).2⟩⟩
    rcases a1.own q z with w | w
    · exact (no q (List.mem_cons_of_mem _ hq)).1 w
    · rcases List.mem_cons.mp w with rfl | w
      · exact absurd hq h4
      · exact nomatch w
theorem two_tv {K : Fg} {B : Bs} {σ : L2.St} {r ra rb : Env} {F H : Hp} {i j : Nat} {m1 m2 : Bool} {x y : TV} {v w : V} {ps : List Addr} (s : StR K B F H σ r) (t : TvL K F H [x, y] [v, w] ps) (no : ∀ p ∈ ps, ¬ Own σ r p ∧ nT B.h p = none) (e1 : asn1 i m1 x r = .ok () ra) (e2 : asn1 j m2 y ra = .ok () rb) :
    ∃ F2, AsT K B H ps σ r F ((σ.set i (some v)).set j (some w)) rb F2 := by
  obtain ⟨q1, p1, F1, rfl, a1, t1, n1⟩ := step_tv s t no e1
  obtain ⟨q2, p2, F2, rfl, a2, t2, n2⟩ := step_tv a1.st t1 n1 e2
  cases t2
  exact ⟨F2, by simpa using a1.trans a2⟩
theorem three_tv {K : Fg} {B : Bs} {σ : L2.St} {r ra rb rc : Env} {F H : Hp} {i j l : Nat} {m1 m2 m3 : Bool} {x y z : TV} {v w u : V} {ps : List Addr} (s : StR K B F H σ r) (t : TvL K F H [x, y, z] [v, w, u] ps) (no : ∀ p ∈ ps, ¬ Own σ r p ∧ nT B.h p = none) (e1 : asn1 i m1 x r = .ok () ra) (e2 : asn1 j m2 y ra = .ok () rb) (e3 : asn1 l m3 z rb = .ok () rc) :
    ∃ F2, AsT K B H ps σ r F (((σ.set i (some v)).set j (some w)).set l (some u)) rc F2 := by
  obtain ⟨q1, p1, F1, rfl, a1, t1, n1⟩ := step_tv s t no e1
  obtain ⟨F2, a2⟩ := two_tv a1.st t1 n1 e2 e3
  exact ⟨F2, a1.trans a2⟩
theorem rs_par2 {i j : Nat} {x y : Str} {a b : Expr} {px py pt p3 : Pos} {kt k2 : Nat} {m1 m2 : Bool} {g : Env → Res (List TV)} (hc : X.calm = true) (hN : X.N.Nodup) (hi : X.N[i]? = some x) (hj : X.N[j]? = some y) (hij : i ≠ j)
    (hx : X.env.scope.names.lookup x = some .local) (hy : X.env.scope.names.lookup y = some .local) (hw : swappedStores [.Tuple [.Name x px, .Name y py] kt pt] (.Tuple [a, b] k2 p3) X.env = pure (some [x, y])) (ha : PA X [a, b] (RdF X.K B g)) :
    PS X (.Assign [.Tuple [.Name x px, .Name y py] kt pt] (.Tuple [a, b] k2 p3) pos) (RdS X.K B fun r => (g r).bind fun xs r1 => if xs.length ≤ SZ then (asnP [.n i m1, .n j m2] xs r1).bind fun _ r2 => .ok .nx r2 else .stuck) :=
  PS.imp (ps_par hc hN hi hj hij hx hy ha hw (sws_no rfl)) fun D σ H ⟨F, r, s, fl, r', q, k⟩ => by
    obtain ⟨tvs, r1, e1, q⟩ := bind_inv q
    split at q
    · rename_i wl
      obtain ⟨_, r2, e2, q⟩ := bind_inv q
      cases q
      refine ⟨F, r, s, tvs, r1, e1, fun xs ps F1 H1 p1 h1 n1 => ?_⟩
      have hl := asnP_len e2
      have hl2 := h1.len
      have no : ∀ q ∈ ps, ¬ Own σ r1 q ∧ nT B.h q = none := fun q hq => ⟨fun z => p1.ne s q z (n1 q hq), Classical.byContradiction fun n => s.dom.at_ q n (n1 q hq)⟩
      obtain ⟨F2, v, w, ev, a2⟩ : ∃ F2 v w, xs = [v, w] ∧ AsT X.K B H1 ps σ r1 F1 ((σ.set i (some v)).set j (some w)) r' F2 := by
        · obtain ⟨t1, t2, rfl⟩ := len2 hl
          obtain ⟨v, w, rfl⟩ := len2 hl2
          obtain ⟨_, ra, ea, eb⟩ := bind_inv (show (asn1 i m1 t1 r1).bind (fun _ r' => asnP [.n j m2] [t2] r') = Res.ok () r' from e2)
          obtain ⟨_, rb, eb, ec⟩ := bind_inv (show (asn1 j m2 t2 ra).bind (fun _ r' => asnP [] [] r') = Res.ok () r' from eb)
          cases (show Res.ok () rb = Res.ok () r' from ec)
          obtain ⟨Fb, ab⟩ := two_tv p1.st h1 no ea eb
          exact ⟨Fb, v, w, rfl, ab⟩
      subst ev
      exact ⟨v, w, rfl, k _ F2 H1 (a2.go p1.go n1)⟩
    · cases q
theorem rs_par3 {i j l : Nat} {x y z : Str} {a b c : Expr} {px py pz pt p3 : Pos} {kt k2 : Nat} {m1 m2 m3 : Bool} {g : Env → Res (List TV)} (hc : X.calm = true) (hN : X.N.Nodup) (hi : X.N[i]? = some x) (hj : X.N[j]? = some y) (hl : X.N[l]? = some z) (hij : i ≠ j) (hil : i ≠ l) (hjl : j ≠ l)
    (hx : X.env.scope.names.lookup x = some .local) (hy : X.env.scope.names.lookup y = some .local) (hz : X.env.scope.names.lookup z = some .local) (hw : swappedStores [.Tuple [.Name x px, .Name y py, .Name z pz] kt pt] (.Tuple [a, b, c] k2 p3) X.env = pure (some [x, y, z])) (ha : PA X [a, b, c] (RdF X.K B g)) :
    PS X (.Assign [.Tuple [.Name x px, .Name y py, .Name z pz] kt pt] (.Tuple [a, b, c] k2 p3) pos) (RdS X.K B fun r => (g r).bind fun xs r1 => if xs.length ≤ SZ then (asnP [.n i m1, .n j m2, .n l m3] xs r1).bind fun _ r2 => .ok .nx r2 else .stuck) :=
  PS.imp (ps_par3 hc hN hi hj hl hij hil hjl hx hy hz ha hw (sws_no rfl)) fun D σ H ⟨F, r, s, fl, r', q, k⟩ => by
    obtain ⟨tvs, r1, e1, q⟩ := bind_inv q
    split at q
    · rename_i wl
      obtain ⟨_, r2, e2, q⟩ := bind_inv q
      cases q
      refine ⟨F, r, s, tvs, r1, e1, fun xs ps F1 H1 p1 h1 n1 => ?_⟩
      have hl := asnP_len e2
      have hl2 := h1.len
      have no : ∀ q ∈ ps, ¬ Own σ r1 q ∧ nT B.h q = none := fun q hq => ⟨fun z => p1.ne s q z (n1 q hq), Classical.byContradiction fun n => s.dom.at_ q n (n1 q hq)⟩
      obtain ⟨F2, v, w, u, ev, a2⟩ : ∃ F2 v w u, xs = [v, w, u] ∧ AsT X.K B H1 ps σ r1 F1 (((σ.set i (some v)).set j (some w)).set l (some u)) r' F2 := by
        · obtain ⟨t1, t2, t3, rfl⟩ := len3 hl
          obtain ⟨v, w, u, rfl⟩ := len3 hl2
          obtain ⟨_, ra, ea, eb⟩ := bind_inv (show (asn1 i m1 t1 r1).bind (fun _ r' => asnP [.n j m2, .n l m3] [t2, t3] r') = Res.ok () r' from e2)
          obtain ⟨_, rb, eb, ec⟩ := bind_inv (show (asn1 j m2 t2 ra).bind (fun _ r' => asnP [.n l m3] [t3] r') = Res.ok () r' from eb)
          obtain ⟨_, rc, ec, ed⟩ := bind_inv (show (asn1 l m3 t3 rb).bind (fun _ r' => asnP [] [] r') = Res.ok () r' from ec)
          cases (show Res.ok () rc = Res.ok () r' from ed)
          obtain ⟨Fb, ab⟩ := three_tv p1.st h1 no ea eb ec
          exact ⟨Fb, v, w, u, rfl, ab⟩
      subst ev
      exact ⟨v, w, u, rfl, k _ F2 H1 (a2.go p1.go n1)⟩
    · cases q
end
end Ev

end
section
set_option linter.all false
set_option maxHeartbeats 4000000
/-! A loop over the pairs of a dict of the frame's own; x.pop(k). -/
namespace Ev
open PySem PySem.Spec PyProof.Rows L2
theorem RpT.getv {K : Fg} {F : Hp} : ∀ {kvs : List (List Key × V)} {ps : List (D × D)}, RpT K F kvs ps → ∀ (i : Nat) (k : List Key) (v : V), kvs[i]? = some (k, v) → ∃ d, ps[i]? = some (keyTD k, d) ∧ Rp K F v d
  | _, _, .nil, i, k, v, e => by simp at e
  | _, _, .cons h r, 0, k, v, e => by
    simp only [List.getElem?_cons_zero, Option.some.injEq] at e
    cases e
    exact ⟨_, rfl, h⟩
  | _, _, .cons h r, i + 1, k, v, e => by
    simp only [List.getElem?_cons_succ] at e
    obtain ⟨d, e1, e2⟩ := RpT.getv r i k v e
    exact ⟨d, by simpa using e1, e2⟩
theorem keyRp {K : Fg} {F : Hp} : ∀ (k : Key), Rp K F (kV k) (keyD k)
  | .inl i => .int i
  | .inr x => .str x
theorem keysRp {K : Fg} {F : Hp} : ∀ (k : List Key), RpL K F (k.map kV) (k.map keyD)
  | [] => .nil
  | k :: l => .cons (keyRp k) (keysRp l)
/-- the slot's object is locked while the loop runs -/
def lckB (B : Bs) (i : Nat) (a : Addr) : Bs := { B with p := fun j c => (j = i ∧ c = a) ∨ (j ≠ i ∧ B.p j c) }
section
variable {K : Fg} {B : Bs} {σ σ' : L2.St} {r r' : Env} {F H F' H' : Hp} {i : Nat} {d : D} {a : Addr}
theorem st_lock {o : HO} (s : StR K B F H σ r) (hr : r[i]? = some (.own d)) (ha : σ[i]? = some (some (.ref a))) (po : Pl (some o) := by first | exact pl_lst | exact pl_dK | exact pl_dT | exact pl_frz | exact pl_tup | exact pl_ob (by assumption) | exact pl_none) : StR K (lckB B i a) F (upd H a o) σ (r.set i .lck) := by
  obtain ⟨a', o', e1, e2, e3, e4⟩ := s.obj i d (.inl hr)
  rw [ha] at e1
  cases e1
  have mu : ∀ {j : Nat} {c : D}, ((r.set i .lck)[j]? = some (.own c) ∨ (r.set i .lck)[j]? = some (.bor c)) → j ≠ i ∧ (r[j]? = some (.own c) ∨ r[j]? = some (.bor c)) := fun {j c} q => by
    rcases q with q | q
    · rcases getset q with ⟨_, z⟩ | ⟨z, q⟩
      · cases z
      · exact ⟨z, .inl q⟩
    · rcases getset q with ⟨_, z⟩ | ⟨z, q⟩
      · cases z
      · exact ⟨z, .inr q⟩
  refine ⟨fun b u q => ?_, ⟨(s.dom.put (pl_at e2 (pl_ob e4)) po).at_, (s.dom.put (pl_at e2 (pl_ob e4)) po).tb, s.dom.nt⟩, by rw [List.length_set]; exact s.len, fun j c q => ?_, fun j c q => ?_, fun j c b q w => ?_, fun j c b q w => ?_, fun j k c c' b q1 q2 w1 w2 => ?_, fun j q => ?_⟩
  · rw [upd_ne (ne_of_none q e3)]
    exact s.sub b u q
  · rcases getset q with ⟨_, z⟩ | ⟨_, q⟩
    · cases z
    · exact s.val j c q
  · obtain ⟨z, q⟩ := mu q
    obtain ⟨b, u, y1, y2, y3, y4⟩ := s.obj j c q
    refine ⟨b, u, y1, ?_, y3, y4⟩
    rw [upd_ne (fun w => by subst w; exact z (s.inj j i c d b q (.inl hr) y1 ha))]
    exact y2
  · rcases getset q with ⟨_, z⟩ | ⟨_, q⟩
    · cases z
    · exact s.new j c b q w
  · rcases getset q with ⟨_, z⟩ | ⟨_, q⟩
    · cases z
    · exact s.lnt j c b q w
  · exact s.inj j k c c' b (mu q1).2 (mu q2).2 w1 w2
  · rcases getset q with ⟨rfl, _⟩ | ⟨z, q⟩
    · exact ⟨a, .inl ⟨rfl, rfl⟩, ha⟩
    · obtain ⟨b, y1, y2⟩ := s.pin j q
      exact ⟨b, .inr ⟨z, y1⟩, y2⟩
theorem own_lock (hr : r[i]? = some (.own d)) (h : Own σ (r.set i .lck) a) : Own σ r a := by
  obtain ⟨j, c, q, w⟩ := h
  rcases q with q | q
  · rcases getset q with ⟨_, z⟩ | ⟨_, q⟩
    · cases z
    · exact ⟨j, c, .inl q, w⟩
  · rcases getset q with ⟨_, z⟩ | ⟨_, q⟩
    · cases z
    · exact ⟨j, c, .inr q, w⟩
theorem no_lock (s : StR K B F H σ r) (hr : r[i]? = some (.own d)) (ha : σ[i]? = some (some (.ref a))) : ¬ Own σ (r.set i .lck) a := fun ⟨j, c, q, w⟩ => by
  rcases q with q | q
  · rcases getset q with ⟨_, z⟩ | ⟨z, q⟩
    · cases z
    · exact z (s.inj j i c d a (.inl q) (.inl hr) w ha)
  · rcases getset q with ⟨_, z⟩ | ⟨z, q⟩
    · cases z
    · exact z (s.inj j i c d a (.inr q) (.inl hr) w ha)
/-- behind the loop -/
theorem go_unlock {u : HO} {od : Obj} (s : StR K B F H σ r) (hr : r[i]? = some (.own d)) (ha : σ[i]? = some (some (.ref a))) (hu : H a = some u) (ob : ObR K F u d)
    (g : Go K (lckB B i a) σ (r.set i .lck) F (upd H a (.frz od u)) σ' r' F' H') (hl : r'[i]? = some .lck) : H' a = some (.frz od u) ∧ Go K B σ r F H σ' (r'.set i (.own d)) F' (upd H' a u) := by
  obtain ⟨a', o', e1, e2, e3, e4⟩ := s.obj i d (.inl hr)
  rw [ha] at e1
  cases e1
  have no := no_lock s hr ha
  have h' := g.frame.at_ a _ upd_same no pl_frz
  have f' : F' a = none := by
    cases z : F' a with
    | none => rfl
    | some w =>
      rcases g.fr a (by rw [z]; simp) with w | w | w
      · exact absurd e3 w
      · exact (w.no upd_same (fun _ q => nomatch q)).elim
      · exact absurd w no
  obtain ⟨b, hb, sa⟩ := g.st.pin i hl
  have eb : b = a := by
    rcases hb with ⟨_, z⟩ | ⟨z, _⟩
    · exact z
    · exact absurd rfl z
  subst eb
  have no' : ∀ {j : Nat} {c : D}, (r'[j]? = some (.own c) ∨ r'[j]? = some (.bor c)) → σ'[j]? ≠ some (some (.ref b)) := fun {j c} q w => by
    obtain ⟨b2, o2, y1, y2, _, y4⟩ := g.st.obj j c q
    rw [w] at y1
    cases y1
    rw [h'] at y2
    cases y2
    cases c with
    | list ds => obtain ⟨_, z, _⟩ := y4; cases z
    | dict ps => rcases y4 with ⟨_, z, _⟩ | ⟨_, _, _, z, _⟩ <;> cases z
    | _ => exact y4
  have mu : ∀ {j : Nat} {c : D}, ((r'.set i (.own d))[j]? = some (.own c) ∨ (r'.set i (.own d))[j]? = some (.bor c)) → (j = i ∧ c = d) ∨ (j ≠ i ∧ (r'[j]? = some (.own c) ∨ r'[j]? = some (.bor c))) := fun {j c} q => by
    rcases q with q | q
    · rcases getset q with ⟨z, z2⟩ | ⟨z, q⟩
      · cases z2; exact .inl ⟨z, rfl⟩
      · exact .inr ⟨z, .inl q⟩
    · rcases getset q with ⟨_, z⟩ | ⟨z, q⟩
      · cases z
      · exact .inr ⟨z, .inr q⟩
  have t := g.st
  refine ⟨h', ⟨⟨fun c w q => ?_, ⟨(t.dom.put (pl_at h' pl_frz) (pl_ob ob)).at_, (t.dom.put (pl_at h' pl_frz) (pl_ob ob)).tb, t.dom.nt⟩, by rw [List.length_set]; exact t.len, fun j c q => ?_, fun j c q => ?_, fun j c e q w => ?_, fun j c e q w => ?_, fun j k c c' e q1 q2 w1 w2 => ?_, fun j q => ?_⟩, g.mono, (g.frame.less fun c z => .inl (own_lock hr z)).swap hu (pl_ob ob) h' pl_frz, fun c q => ?_, fun c q => ?_, fun c q => ?_⟩⟩
  · rw [upd_ne (ne_of_none q f')]
    exact t.sub c w q
  · rcases getset q with ⟨_, z⟩ | ⟨_, q⟩
    · cases z
    · exact t.val j c q
  · rcases mu q with ⟨rfl, rfl⟩ | ⟨z, q⟩
    · exact ⟨b, u, sa, upd_same, f', ob.mono g.mono⟩
    · obtain ⟨b2, o2, y1, y2, y3, y4⟩ := t.obj j c q
      refine ⟨b2, o2, y1, ?_, y3, y4⟩
      rw [upd_ne (fun w => no' q (by rw [y1, w]))]
      exact y2
  · rcases mu (.inl q) with ⟨rfl, rfl⟩ | ⟨z, _⟩
    · rw [sa] at w
      cases w
      exact s.new _ _ b hr ha
    · rcases getset q with ⟨z2, _⟩ | ⟨_, q⟩
      · exact absurd z2 z
      · exact t.new j c e q w
  · rcases getset q with ⟨_, z⟩ | ⟨_, q⟩
    · cases z
    · exact t.lnt j c e q w
  · rcases mu q1 with ⟨rfl, rfl⟩ | ⟨z1, v1⟩
    · rw [sa] at w1
      cases w1
      rcases mu q2 with ⟨rfl, _⟩ | ⟨z2, v2⟩
      · rfl
      · exact absurd w2 (no' v2)
    · rcases mu q2 with ⟨rfl, _⟩ | ⟨z2, v2⟩
      · rw [sa] at w2
        cases w2
        exact absurd w1 (no' v1)
      · exact t.inj j k c c' e v1 v2 w1 w2
  · rcases getset q with ⟨_, z⟩ | ⟨z, q⟩
    · cases z
    · obtain ⟨c, y1, y2⟩ := t.pin j q
      rcases y1 with ⟨y1, _⟩ | ⟨_, y1⟩
      · exact absurd y1 z
      · exact ⟨c, y1, y2⟩
  · exact dom_swap (pl_ob ob) g.dom c q
  · rcases g.fr c q with w | w | w
    · exact .inl w
    · refine .inr (.inl ?_)
      have nc : c ≠ b := fun z => by
        rw [z] at w
        exact w.no upd_same (fun _ q => nomatch q)
      unfold NT at w ⊢
      rw [nT_une nc, upd_ne nc] at w
      exact w
    · exact .inr (.inr (own_lock hr w))
  · obtain ⟨j, e, q, w⟩ := q
    rcases mu q with ⟨rfl, rfl⟩ | ⟨z, q⟩
    · rw [sa] at w
      cases w
      exact .inl ⟨_, _, .inl hr, ha⟩
    · rcases g.own c ⟨j, e, q, w⟩ with v | v
      · exact .inl (own_lock hr v)
      · refine .inr ?_
        have nc : c ≠ b := fun z => by
          rw [z] at v
          exact nT_no v upd_same fun _ q => nomatch q
        rw [nT_une nc] at v
        exact v
end
theorem PSs.ex {X : Cx} {β : Type} {l : List Stmt} {t : β → TS} (h : ∀ b, PSs X l (t b)) : PSs X l (fun D σ H => ∃ b, t b D σ H) := ⟨fun pins s σ H D I q => let ⟨b, q⟩ := q; (h b).run pins s σ H D I q⟩
theorem PG.ex {X : Cx} {β : Type} {e : Expr} {t : β → TG} (h : ∀ b, PG X e (t b)) : PG X e (fun v σ H Q => ∃ b, t b v σ H Q) := ⟨fun pins s σ H v u Q I r q => let ⟨b, q⟩ := q; (h b).run pins s σ H v u Q I r q⟩
theorem ob_nfrz {K : Fg} {F : Hp} {od : Obj} {u : HO} {d : D} (h : ObR K F (.frz od u) d) : False := by
  cases d with
  | list ds => obtain ⟨_, q, _⟩ := h; cases q
  | dict ps => rcases h with ⟨_, q, _⟩ | ⟨_, _, _, q, _⟩ <;> cases q
  | _ => exact h
section
variable {X : Cx} {B : Bs} {pos : Pos} {gs : Env → Res Fl}
theorem rs_fri {x : Str} {p2 : Pos} {i : Nat} {elts : List Expr} {kk : Nat} {tpos apos cpos : Pos} {t : IT} {body : List Stmt} (hx : PassesOwn (model X.prog X.w) X.A X.env X.xe) (hcm : X.calm = true) (hN : X.N[i]? = some x) (hv : Vis X.env.scope x) (hd : (x == ("__debug__" : Str)) = false) (hcd : (x == ("__classdict__" : Str)) = false)
    (hl : (apos.endLine == cpos.line) = true) (hg : ∀ B' : { b : Bs // b.t = B.t }, PG X (.Tuple elts kk tpos) (RdG X.K B'.1 t)) (hb : ∀ B' : { b : Bs // b.t = B.t }, PSs X body (RdS X.K B'.1 gs)) (hs : ∀ x', foldedSetIterable (.Call (.Attribute (.Name x p2) "items" apos) [] [] cpos) X.env x' = pure x') :
    PS X (.For (.Tuple elts kk tpos) (.Call (.Attribute (.Name x p2) "items" apos) [] [] cpos) body [] pos) (RdS X.K B fun r => match r[i]? with
    | some (.own (.dict ((.none, .int 0) :: ps))) => friK i ps (forL (fun x r2 => (asn t (.d x) r2).bind fun _ r3 => gs r3) (ps.map pairD) (r.set i .lck))
    | _ => .stuck) :=
  PS.imp (ps_lock (ps_for hx hcm (pi_itemsT (pe_var hN hv hd hcd) rfl hl) (PG.ex hg) (PSs.ex hb) hs)) fun D σ H ⟨F, r, s, fl, rE, q, k⟩ => by
    dsimp only at q
    split at q
    · rename_i ps hr
      obtain ⟨a, u, ea, eu, ef, ob⟩ := s.obj i _ (.inl hr)
      obtain ⟨a2, kvs, ea2, hkv, rk⟩ := ditO eu ob
      cases ea2
      rw [eu] at hkv
      cases hkv
      refine ⟨a, .dT kvs, eu, True.intro, fun od => ?_⟩
      refine ⟨.ref a, ea, a, od, kvs, rfl, upd_same, ?_⟩
      have st1 := st_lock (o := .frz od (.dT kvs)) s hr ea
      have hlen : kvs.length = ps.length := rk.length
      refine ⟨fun n m σ' H' => m = ps.length - n ∧ n ≤ ps.length ∧ ∃ F' rr, Go X.K (lckB B i a) σ (r.set i .lck) F (upd H a (.frz od (.dT kvs))) σ' rr F' H' ∧ friK i ps (forL (fun x r2 => (asn t (.d x) r2).bind fun _ r3 => gs r3) ((ps.map pairD).drop n) rr) = .ok fl rE, ⟨ps.length, by simp, Nat.zero_le _, F, _, Go.refl st1, q⟩, ?_⟩
      rintro n m σ2 H2 ⟨rfl, hn, F2, r2, g2, q2⟩
      have hlk : H2 a = some (.frz od (.dT kvs)) := g2.frame.at_ a _ upd_same (no_lock s hr ea) pl_frz
      have fin : ∀ {σ5 : L2.St} {F5 H5 : Hp} {r5 : Env}, Go X.K (lckB B i a) σ (r.set i .lck) F (upd H a (.frz od (.dT kvs))) σ5 r5 F5 H5 → friK i ps (.ok .nx r5) = .ok fl rE → H5 a = some (.frz od (.dT kvs)) ∧ D.nx σ5 (upd H5 a (.dT kvs)) := fun {σ5 F5 H5 r5} g5 z => by
        have z : (match r5[i]? with | some .lck => Res.ok Fl.nx (r5.set i (.own (.dict (markT :: ps)))) | _ => .stuck) = .ok fl rE := z
        split at z
        · rename_i hl5
          cases z
          obtain ⟨e1, e2⟩ := go_unlock s hr ea eu ob g5 hl5
          exact ⟨e1, k σ5 F5 _ e2⟩
        · cases z
      by_cases hlt : n < ps.length
      · have hd : (ps.map pairD).drop n = pairD ps[n] :: (ps.map pairD).drop (n + 1) := by
          rw [List.drop_eq_getElem_cons (by rw [List.length_map]; exact hlt), List.getElem_map]
        rw [hd] at q2
        unfold forL at q2
        refine .inr ⟨⟨hlk, by rw [hlen]; exact hlt⟩, fun σ' H' => ∃ F' rr, Go X.K (lckB B i a) σ (r.set i .lck) F (upd H a (.frz od (.dT kvs))) σ' rr F' H' ∧ friK i ps (forL (fun x r2 => (asn t (.d x) r2).bind fun _ r3 => gs r3) ((ps.map pairD).drop (n + 1)) rr) = .ok fl rE,
          fun σ' H' z => ⟨ps.length - (n + 1), by omega, rfl, hlt, z⟩, fun x H' y => ?_⟩
        obtain ⟨T, kk', v, kq, h1, rfl, h2, h3, rfl⟩ := y
        obtain ⟨w, e1, e2⟩ := rk.getv n kk' v h1
        have ew : ps[n] = (keyTD kk', w) := by
          rw [List.getElem?_eq_getElem hlt] at e1
          exact Option.some.inj e1
        obtain ⟨G, ad, hG⟩ := adopt_one g2.st.sub h3
        have out : OutG X.K F2 H2 (.d (pairD ps[n])) (.ref T) (upd H2 T (.tup [.ref kq, v])) := by
          rw [ew]
          exact .ad ad (.tup h2 (.cons (.tup (.inl hG) (keysRp kk')) (.cons ((e2.mono g2.mono).mono ad.sub) .nil)))
        obtain ⟨F3, p3, t3⟩ := out.post g2.st
        have g3 := g2.trans p3.go
        have key : ∀ (f2 : Fl) (r5 : Env) (D2 : Ends), ((asn t (.d (pairD ps[n])) r2).bind fun _ r3 => gs r3) = .ok f2 r5 → (∀ σ' F' H'', Go X.K (lckB B i a) σ (r.set i .lck) F (upd H a (.frz od (.dT kvs))) σ' r5 F' H'' → EndR X.K (lckB B i a) D2 f2 σ' F' H'') →
            (fun v σ H Q => ∃ b : { b : Bs // b.t = B.t }, RdG X.K b.1 t v σ H Q : TG) (.ref T) σ2 (upd H2 T (.tup [.ref kq, v])) fun σ2 H2 => (fun D σ H => ∃ b : { b : Bs // b.t = B.t }, RdS X.K b.1 gs D σ H : TS) D2 σ2 H2 := fun f2 r5 D2 ef kk => by
          obtain ⟨_, r4, e4, ef⟩ := bind_inv ef
          exact ⟨⟨lckB B i a, rfl⟩, F3, r2, pairD ps[n], p3.st, t3, r4, e4, fun σ4 a4 => ⟨⟨lckB B i a, rfl⟩, F3, r4, a4.st, f2, r5, ef, fun σ5 F5 H5 g5 => kk σ5 F5 H5 ((g3.trans a4.go).trans g5)⟩⟩
        split at q2
        · rename_i r5 e5
          exact key _ _ _ e5 fun σ' F' H'' g => ⟨F', r5, g, q2⟩
        · rename_i r5 e5
          exact key _ _ _ e5 fun σ' F' H'' g => ⟨F', r5, g, q2⟩
        · rename_i r5 e5
          exact key _ _ _ e5 fun σ' F' H'' g => fin g q2
        · rename_i b v' r5 e5
          have z : (match r5[i]? with | some .lck => Res.ok (Fl.ret b v') (r5.set i (.own (.dict (markT :: ps)))) | _ => .stuck) = .ok fl rE := q2
          split at z
          · rename_i hl5
            cases z
            refine key _ _ _ e5 fun σ' F' H'' g x tv => ?_
            obtain ⟨w1, w2⟩ := go_unlock s hr ea eu ob g hl5
            refine ⟨w1, k σ' F' _ w2 x ?_⟩
            cases b with
            | false => exact tv
            | true =>
              obtain ⟨p, o, y1, y2, y3, y4, y5⟩ := tv
              refine ⟨p, o, y1, ?_, y3, y4, y5⟩
              rw [upd_ne (fun z => by
                rw [z, w1] at y2
                cases y2
                exact ob_nfrz y4)]
              exact y2
          · cases z
        · cases q2
        · cases q2
      · have ei : n = ps.length := by omega
        subst ei
        rw [List.drop_eq_nil_of_le (by rw [List.length_map]; exact Nat.le_refl _)] at q2
        exact .inl ⟨⟨hlk, by rw [hlen]; exact Nat.le_refl _⟩, fin g2 q2⟩
    · cases q
theorem RpT.drop {K : Fg} {F : Hp} (k : List Key) : ∀ {kvs : List (List Key × V)} {ps : List (D × D)}, RpT K F kvs ps → RpT K F (dropK kvs k) (dropT ps (k.map keyD))
  | _, _, .nil => .nil
  | _, _, .cons (k := k') (v := v) (d := d) (kvs := kvs) (ps := ps) h r => by
    have ih := RpT.drop k r
    unfold dropK dropT at ih ⊢
    by_cases z : k' = k
    · have e1 : List.filter (fun p : D × D => !tkIs p.1 (k.map keyD)) ((keyTD k', d) :: ps) = List.filter (fun p => !tkIs p.1 (k.map keyD)) ps := by
        rw [List.filter_cons]
        simp only [tkIs_D, decide_eq_true z]
        rfl
      rw [List.filter_cons_of_neg (by simp [z]), e1]
      exact ih
    · have e1 : List.filter (fun p : D × D => !tkIs p.1 (k.map keyD)) ((keyTD k', d) :: ps) = (keyTD k', d) :: List.filter (fun p => !tkIs p.1 (k.map keyD)) ps := by
        rw [List.filter_cons]
        simp only [tkIs_D, decide_eq_false z]
        rfl
      rw [List.filter_cons_of_pos (by simpa using z), e1]
      exact .cons h ih
theorem popT_inv {u k d : D} (h : popT u k = some d) : ∃ ps ks, u = .dict ((.none, .int 0) :: ps) ∧ k = .tuple ks ∧ isKeyT ks = true ∧ (lookT ps ks).isSome = true ∧ d = .dict (markT :: dropT ps ks) := by
  unfold popT at h
  split at h
  · split at h
    · rename_i hc
      rw [Bool.and_eq_true] at hc
      cases h
      exact ⟨_, _, rfl, rfl, hc.1, hc.2, rfl⟩
    · cases h
  · cases h
/-- x.pop(k) -/
theorem rs_dpo {i : Nat} {x : Str} {k : Expr} {p2 ap cp : Pos} {gk : Env → Res TV} (hu : X.A.units + 1 < cLine) (hN : X.N[i]? = some x) (hv : Vis X.env.scope x) (hd : (x == ("__debug__" : Str)) = false) (hcd : (x == ("__classdict__" : Str)) = false) (hl : (ap.endLine == cp.line) = true) (hp : plainE k = true)
    (hk : PE X k (RdE X.K B gk)) :
    PS X (.Expr (.Call (.Attribute (.Name x p2) "pop" ap) [k] [] cp) pos) (RdS X.K B fun r => match mutAt r i with
      | some (.dict ((.none, .int 0) :: _)) => (gk r).bind fun y r1 => match mutAt r1 i, deref r1 y with
        | some u, some kd => match popT u kd with
          | some d => .ok .nx (setAt r1 i d)
          | none => .stuck
        | _, _ => .stuck
      | _ => .stuck) := by
  refine PS.imp (ps_expr (pe_dpopT hu (pe_var hN hv hd hcd) hk (m1_ok rfl hp hl)) (sw_no rfl)) fun D σ H ⟨F, r, s, fl, r', q, kk⟩ => ?_
  dsimp only at q
  split at q
  · rename_i ps0 z0
    obtain ⟨y, r3, e3, q⟩ := bind_inv q
    obtain ⟨a, o, hσ, ha0, _, ob0⟩ := s.obj i _ (mutAt_inv z0)
    obtain ⟨a1, kvs0, ea1, hkv0, _⟩ := ditO ha0 ob0
    cases ea1
    have isd : IsD H a := .inr ⟨kvs0, .inl hkv0⟩
    refine ⟨_, hσ, a, rfl, isd, F, r, s, y, r3, e3, fun yv F3 H3 p3 t3 => ?_⟩
    split at q
    · rename_i u kd z1 z2
      split at q
      · rename_i nd hm
        cases q
        obtain ⟨ps, ks, rfl, rfl, c1, c2, rfl⟩ := popT_inv hm
        obtain ⟨a', o', hσ', ho, hf, hob⟩ := p3.st.obj i _ (mutAt_inv z1)
        rw [hσ] at hσ'
        cases hσ'
        obtain ⟨a2, kvs, ea2, ho2, rk⟩ := ditO ho hob
        cases ea2
        rw [ho] at ho2
        cases ho2
        obtain ⟨b, kq, rfl, hb, rfl⟩ := Rq.ktup p3.st.sub (deref_rq p3.st t3 z2) c1
        rcases rk.look kq with ⟨w1, _⟩ | ⟨d, v, w1, w2, w3⟩
        · rw [w1] at c2; cases c2
        · refine ⟨kvs, kq, b, v, ho, rfl, hb, w2, ?_⟩
          have hl : ObR X.K F3 (.dT (dropK kvs kq)) (.dict (markT :: dropT ps (kq.map keyD))) := .inr ⟨_, _, rfl, rfl, rk.drop kq⟩
          have st' := set_st (d := .dict (markT :: dropT ps (kq.map keyD))) p3.st (mutAt_inv z1) hσ hl
          have own_a : Own σ r a := p3.own a ⟨i, _, mutAt_inv z1, hσ⟩
          refine kk σ F3 _ ⟨st', p3.mono, Kp.then p3.frame own_a (by rw [ho]; first | exact pl_lst | exact pl_dK | exact pl_dT | exact pl_frz | exact pl_tup | exact pl_ob (by assumption)), fun b hb => ?_, p3.fr, fun b hb => .inl (p3.own b (own_setAt hb))⟩
          · exact dom_put (by first | exact pl_lst | exact pl_dK | exact pl_dT | exact pl_frz | exact pl_tup | exact pl_ob (by assumption) | exact pl_none) p3.dom b hb
      · cases q
    · cases q
  · cases q
end
end Ev

end
section
set_option linter.all false
set_option maxHeartbeats 4000000
/-! A loop over the keys of a dict that stands. -/
namespace Ev
open PySem PySem.Spec PyProof.Rows L2
theorem chg_lock {F : Hp} {a : Addr} {kvs : List (Key × V)} {od : Obj} (h : F a = some (.dK kvs)) : Chg F (upd F a (.frz od (.dK kvs))) where
  l := fun b xs r => by
    rcases r with r | ⟨o, r⟩
    · exact .inl (by rw [upd_ne (fun z => by rw [z, h] at r; cases r)]; exact r)
    · exact .inr ⟨o, by rw [upd_ne (fun z => by rw [z, h] at r; cases r)]; exact r⟩
  l1 := fun b xs r => by rw [upd_ne (fun z => by rw [z, h] at r; cases r)]; exact r
  t := fun b xs r => by
    rcases r with r | ⟨o, r⟩
    · exact .inl (by rw [upd_ne (fun z => by rw [z, h] at r; cases r)]; exact r)
    · exact .inr ⟨o, by rw [upd_ne (fun z => by rw [z, h] at r; cases r)]; exact r⟩
  t1 := fun b xs r => by rw [upd_ne (fun z => by rw [z, h] at r; cases r)]; exact r
  k := fun b qs r => by
    by_cases z : b = a
    · subst z
      rcases r with r | ⟨o, r⟩
      · rw [h] at r
        cases r
        exact .inr ⟨od, upd_same⟩
      · rw [h] at r
        cases r
    · unfold Rd at r ⊢
      rw [upd_ne z]
      exact r
  d := fun b qs r => by
    by_cases z : b = a
    · subst z
      rcases r with r | ⟨o, r⟩ <;> (rw [h] at r; cases r)
    · unfold Rd at r ⊢
      rw [upd_ne z]
      exact r
theorem chg_unlock {F : Hp} {a : Addr} {kvs : List (Key × V)} {od : Obj} (h : F a = some (.frz od (.dK kvs))) : Chg F (upd F a (.dK kvs)) where
  l := fun b xs r => by
    rcases r with r | ⟨o, r⟩
    · exact .inl (by rw [upd_ne (fun z => by rw [z, h] at r; cases r)]; exact r)
    · exact .inr ⟨o, by rw [upd_ne (fun z => by rw [z, h] at r; cases r)]; exact r⟩
  l1 := fun b xs r => by rw [upd_ne (fun z => by rw [z, h] at r; cases r)]; exact r
  t := fun b xs r => by
    rcases r with r | ⟨o, r⟩
    · exact .inl (by rw [upd_ne (fun z => by rw [z, h] at r; cases r)]; exact r)
    · exact .inr ⟨o, by rw [upd_ne (fun z => by rw [z, h] at r; cases r)]; exact r⟩
  t1 := fun b xs r => by rw [upd_ne (fun z => by rw [z, h] at r; cases r)]; exact r
  k := fun b qs r => by
    by_cases z : b = a
    · subst z
      rcases r with r | ⟨o, r⟩
      · rw [h] at r
        cases r
      · rw [h] at r
        cases r
        exact .inl upd_same
    · unfold Rd at r ⊢
      rw [upd_ne z]
      exact r
  d := fun b qs r => by
    by_cases z : b = a
    · subst z
      rcases r with r | ⟨o, r⟩ <;> (rw [h] at r; cases r)
    · unfold Rd at r ⊢
      rw [upd_ne z]
      exact r
section
variable {K : Fg} {B : Bs} {σ σ' : L2.St} {r r' : Env} {F H F' H' : Hp} {a : Addr} {kvs : List (Key × V)} {od : Obj}
theorem st_lockV (s : StR K B F H σ r) (h : F a = some (.dK kvs)) : StR K B (upd F a (.frz od (.dK kvs))) (upd H a (.frz od (.dK kvs))) σ r where
  sub := fun b o q => by
    by_cases z : b = a
    · subst z
      rw [upd_same] at q ⊢
      exact q
    · rw [upd_ne z] at q ⊢
      exact s.sub b o q
  dom := (s.dom.put (pl_at (s.sub a _ h) pl_dK)).fz pl_frz
  len := s.len
  val := fun i d q => by
    obtain ⟨x, e1, e2⟩ := s.val i d q
    exact ⟨x, e1, e2.chg (chg_lock h)⟩
  obj := fun i d q => by
    obtain ⟨b, o, e1, e2, e3, e4⟩ := s.obj i d q
    have nb : b ≠ a := fun z => by rw [z, h] at e3; cases e3
    exact ⟨b, o, e1, by rw [upd_ne nb]; exact e2, by rw [upd_ne nb]; exact e3, e4.chg (chg_lock h)⟩
  new := s.new
  lnt := s.lnt
  inj := s.inj
  pin := s.pin
theorem go_unlockV (h : F a = some (.dK kvs)) (hH : H a = some (.dK kvs)) (g : Go K B σ r (upd F a (.frz od (.dK kvs))) (upd H a (.frz od (.dK kvs))) σ' r' F' H') : F' a = some (.frz od (.dK kvs)) ∧ H' a = some (.frz od (.dK kvs)) ∧ Go K B σ r F H σ' r' (upd F' a (.dK kvs)) (upd H' a (.dK kvs)) := by
  have f1 : F' a = some (.frz od (.dK kvs)) := g.mono a _ upd_same
  have h1 : H' a = some (.frz od (.dK kvs)) := g.st.sub a _ f1
  have t := g.st
  refine ⟨f1, h1, ⟨⟨fun b o q => ?_, (t.dom.put (pl_at h1 pl_frz)).fz pl_dK, t.len, fun i d q => ?_, fun i d q => ?_, t.new, t.lnt, t.inj, t.pin⟩, fun b o q => ?_, g.frame.swap hH pl_dK h1 pl_frz, fun b q => ?_, fun b q => ?_, fun b q => ?_⟩⟩
  · by_cases z : b = a
    · subst z
      rw [upd_same] at q ⊢
      exact q
    · rw [upd_ne z] at q ⊢
      exact t.sub b o q
  · obtain ⟨x, e1, e2⟩ := t.val i d q
    exact ⟨x, e1, e2.chg (chg_unlock f1)⟩
  · obtain ⟨b, o, e1, e2, e3, e4⟩ := t.obj i d q
    have nb : b ≠ a := fun z => by rw [z, f1] at e3; cases e3
    exact ⟨b, o, e1, by rw [upd_ne nb]; exact e2, by rw [upd_ne nb]; exact e3, e4.chg (chg_unlock f1)⟩
  · by_cases z : b = a
    · subst z
      rw [upd_same, ← h]
      exact q
    · rw [upd_ne z]
      exact g.mono b o (by rw [upd_ne z]; exact q)
  · exact dom_swap (by first | exact pl_lst | exact pl_dK | exact pl_dT | exact pl_frz | exact pl_tup | exact pl_ob (by assumption) | exact pl_none) g.dom b q
  · by_cases z : b = a
    · subst z
      exact .inl (by rw [h]; simp)
    · rw [upd_ne z] at q
      rcases g.fr b q with w | w | w
      · rw [upd_ne z] at w
        exact .inl w
      · refine .inr (.inl ?_)
        unfold NT at w ⊢
        rw [nT_une z, upd_ne z] at w
        exact w
      · exact .inr (.inr w)
  · rcases g.own b q with w | w
    · exact .inl w
    · refine .inr ?_
      have z : b ≠ a := fun z => by
        rw [z] at w
        exact nT_no w upd_same fun _ q => nomatch q
      rw [nT_une z] at w
      exact w
theorem end_unlockV {D : Ends} {fl : Fl} (f1 : F' a = some (.frz od (.dK kvs))) (h1 : H' a = some (.frz od (.dK kvs))) (h : EndR K B D fl σ' (upd F' a (.dK kvs)) (upd H' a (.dK kvs))) :
    EndR K B ⟨fun σ' H' => H' a = some (.frz od (.dK kvs)) ∧ D.nx σ' (upd H' a (.dK kvs)), fun v H' => H' a = some (.frz od (.dK kvs)) ∧ D.rt v (upd H' a (.dK kvs)), fun σ' H' => H' a = some (.frz od (.dK kvs)) ∧ D.bk σ' (upd H' a (.dK kvs)), fun σ' H' => H' a = some (.frz od (.dK kvs)) ∧ D.ct σ' (upd H' a (.dK kvs))⟩ fl σ' F' H' := by
  cases fl with
  | nx => exact ⟨h1, h⟩
  | brk => exact ⟨h1, h⟩
  | cnt => exact ⟨h1, h⟩
  | ret b v =>
    intro x tv
    refine ⟨h1, h x ?_⟩
    cases b with
    | false => exact Rp.chg (chg_unlock f1) tv
    | true =>
      obtain ⟨p, o, y1, y2, y3, y4, y5⟩ := tv
      have np : p ≠ a := fun z => by rw [z, f1] at y3; cases y3
      exact ⟨p, o, y1, by rw [upd_ne np]; exact y2, by rw [upd_ne np]; exact y3, y4.chg (chg_unlock f1), y5⟩
end
theorem PS.or {X : Cx} {st : Stmt} {t t' : TS} (h : PS X st t) (h' : PS X st t') : PS X st (fun D σ H => t D σ H ∨ t' D σ H) := ⟨fun pins s σ H D I q => q.elim (h.run pins s σ H D I) (h'.run pins s σ H D I)⟩
theorem RpK.getv {K : Fg} {F : Hp} : ∀ {kvs : List (Key × V)} {ps : List (D × D)}, RpK K F kvs ps → ∀ (i : Nat) (k : Key) (v : V), kvs[i]? = some (k, v) → ∃ d, ps[i]? = some (keyD k, d)
  | _, _, .nil, i, k, v, e => by simp at e
  | _, _, .cons h r, 0, k, v, e => by
    simp only [List.getElem?_cons_zero, Option.some.injEq] at e
    cases e
    exact ⟨_, rfl⟩
  | _, _, .cons h r, i + 1, k, v, e => by
    simp only [List.getElem?_cons_succ] at e
    obtain ⟨d, e1⟩ := RpK.getv r i k v e
    exact ⟨d, by simpa using e1⟩
theorem frk_core {K : Fg} {B : Bs} {gs : Env → Res Fl} {σ : L2.St} {F H : Hp} {r rE : Env} {fl : Fl} {a : Addr} {kvs : List (Key × V)} {od : Obj} {t : IT} {DE : Ends} {ps : List (D × D)} {i : Nat}
    (s : StR K B F H σ r) (ea : σ[i]? = some (some (.ref a))) (f1 : F a = some (.frz od (.dK kvs))) (rk : RpK K F kvs ps) (q : forL (fun x r2 => (asn t (.d x) r2).bind fun _ r3 => gs r3) (ps.map (·.1)) r = .ok fl rE)
    (k : ∀ σ' F' H', Go K B σ r F H σ' rE F' H' → EndR K B DE fl σ' F' H') : tFor (iKeys (tVar i)) (RdG K B t) (RdS K B gs) DE σ H := by
  refine ⟨.ref a, ea, a, od, rfl, .inl ⟨kvs, s.sub _ _ f1, ?_⟩⟩
  have hlen : kvs.length = ps.length := rk.length
  refine ⟨fun n m σ' H' => m = ps.length - n ∧ n ≤ ps.length ∧ ∃ F' rr, Go K B σ r F H σ' rr F' H' ∧ forL (fun x r2 => (asn t (.d x) r2).bind fun _ r3 => gs r3) ((ps.map (·.1)).drop n) rr = .ok fl rE, ⟨ps.length, by simp, Nat.zero_le _, F, _, Go.refl s, q⟩, ?_⟩
  rintro n m σ2 H2 ⟨rfl, hn, F2, r2, g2, q2⟩
  have hlk : H2 a = some (.frz od (.dK kvs)) := g2.st.sub _ _ (g2.mono _ _ f1)
  by_cases hlt : n < ps.length
  · have hd : (ps.map (·.1)).drop n = ps[n].1 :: (ps.map (·.1)).drop (n + 1) := by
      rw [List.drop_eq_getElem_cons (by rw [List.length_map]; exact hlt), List.getElem_map]
    rw [hd] at q2
    unfold forL at q2
    refine .inr ⟨⟨hlk, by rw [hlen]; exact hlt⟩, fun σ' H' => ∃ F' rr, Go K B σ r F H σ' rr F' H' ∧ forL (fun x r2 => (asn t (.d x) r2).bind fun _ r3 => gs r3) ((ps.map (·.1)).drop (n + 1)) rr = .ok fl rE,
      fun σ' H' z => ⟨ps.length - (n + 1), by omega, rfl, hlt, z⟩, fun x H' y => ?_⟩
    obtain ⟨eH, kk', v, h1, ex⟩ := y
    subst ex
    rw [eH]
    clear eH H'
    obtain ⟨w, e1⟩ := rk.getv n kk' v h1
    have ew : ps[n] = (keyD kk', w) := by
      rw [List.getElem?_eq_getElem hlt] at e1
      exact Option.some.inj e1
    have key : ∀ (f2 : Fl) (r5 : Env) (D2 : Ends), ((asn t (.d ps[n].1) r2).bind fun _ r3 => gs r3) = .ok f2 r5 → (∀ σ' F' H'', Go K B σ r F H σ' r5 F' H'' → EndR K B D2 f2 σ' F' H'') →
        RdG K B t (kV kk') σ2 H2 fun σ2 H2 => RdS K B gs D2 σ2 H2 := fun f2 r5 D2 ef kk => by
      obtain ⟨_, r4, e4, ef⟩ := bind_inv ef
      exact ⟨F2, r2, ps[n].1, g2.st, by rw [ew]; exact keyRp kk', r4, e4, fun σ4 a4 => ⟨F2, r4, a4.st, f2, r5, ef, fun σ5 F5 H5 g5 => kk σ5 F5 H5 ((g2.trans a4.go).trans g5)⟩⟩
    split at q2
    · rename_i r5 e5
      exact key _ _ _ e5 fun σ' F' H'' g => ⟨F', r5, g, q2⟩
    · rename_i r5 e5
      exact key _ _ _ e5 fun σ' F' H'' g => ⟨F', r5, g, q2⟩
    · rename_i r5 e5
      cases q2
      exact key _ _ _ e5 fun σ' F' H'' g => k σ' F' H'' g
    · rename_i b v' r5 e5
      cases q2
      exact key _ _ _ e5 fun σ' F' H'' g => k σ' F' H'' g
    · cases q2
    · cases q2
  · have ei : n = ps.length := by omega
    subst ei
    rw [List.drop_eq_nil_of_le (by rw [List.length_map]; exact Nat.le_refl _)] at q2
    cases q2
    exact .inl ⟨⟨hlk, by rw [hlen]; exact Nat.le_refl _⟩, k σ2 F2 H2 g2⟩
section
variable {X : Cx} {B : Bs} {pos : Pos} {gs : Env → Res Fl}
theorem rs_frk {x : Str} {p2 : Pos} {i : Nat} {tg : Expr} {t : IT} {body : List Stmt} (hx : PassesOwn (model X.prog X.w) X.A X.env X.xe) (hcm : X.calm = true) (hN : X.N[i]? = some x) (hv : Vis X.env.scope x) (hd : (x == ("__debug__" : Str)) = false) (hcd : (x == ("__classdict__" : Str)) = false)
    (hg : PG X tg (RdG X.K B t)) (hb : PSs X body (RdS X.K B gs)) (hs : ∀ x', foldedSetIterable (.Name x p2) X.env x' = pure x') :
    PS X (.For tg (.Name x p2) body [] pos) (RdS X.K B fun r => match r[i]? with
    | some (.val (.dict ps)) => if (ps.all fun p => isKey p.1) = true then forL (fun x r2 => (asn t (.d x) r2).bind fun _ r3 => gs r3) (ps.map (·.1)) r else .stuck
    | _ => .stuck) := by
  have hf := ps_for hx hcm (pi_keys (pe_var (pos := p2) hN hv hd hcd)) hg hb hs (pos := pos)
  refine PS.imp (PS.or (ps_lock hf) hf) fun D σ H ⟨F, r, s, fl, rE, q, k⟩ => ?_
  dsimp only at q
  split at q
  · rename_i ps hr
    split at q
    · rename_i hk
      obtain ⟨xv, ea, rp⟩ := s.val i _ hr
      obtain ⟨a, kvs, rfl, hR, rk⟩ := Rq.dic (K := X.K) (Sub.refl F) (Or.inl rp : Rq X.K F F xv _) hk
      rcases hR with hR | ⟨od, hR⟩
      · refine .inl ⟨a, .dK kvs, s.sub _ _ hR, True.intro, fun od => ?_⟩
        refine frk_core (st_lockV (od := od) s hR) ea upd_same (rk.chg (chg_lock hR)) q fun σ' F' H' g => ?_
        obtain ⟨f1, h1, g2⟩ := go_unlockV hR (s.sub _ _ hR) g
        exact end_unlockV f1 h1 (k σ' _ _ g2)
      · exact .inr (frk_core s ea hR rk q k)
    · cases q
  · cases q
end
end Ev

end
section
set_option linter.all false
set_option maxHeartbeats 4000000
namespace Ev
open PySem PySem.Spec PyProof.Rows L2
def isLC : IE → Expr → Bool
  | .cm1 _ _ _ _ _, .ListComp _ _ _ _ => true
  | .cm2 _ _ _ _ _ _ _ _ _, .ListComp _ _ _ _ => true
  | _, _ => false
def chV (c : Ck) (sc : Scope) (e : IE) (v : Expr) : Bool := chE c sc e v && (notComp v || isLC e v)
abbrev allB : Str → Bool := fun _ => true
def chT1 (c : Ck) (sc : Scope) : IT → Expr → Bool
  | .n i m, e => match e with
    | .Name x _ => slotB c i x && locB sc x
    | _ => false
  | .t l, e => chG c allB sc (.t l) e
def chTs (c : Ck) (sc : Scope) : List IT → List Expr → Bool
  | [], [] => true
  | t :: ts, e :: es => chT1 c sc t e && chTs c sc ts es
  | _, _ => false
def par2 (c : Ck) (sc : Scope) (ts : List IT) (es vs : List Expr) (nm : List Str) : Bool := match ts, es, vs, nm with
  | [.n i _, .n j _], [.Name x _, .Name y _], [_, _], [x', y'] => slotB c i x && (slotB c j y && (!(i == j) && (isLoc sc x && (isLoc sc y && ((x == x') && (y == y'))))))
  | _, _, _, _ => false
def par3 (c : Ck) (sc : Scope) (ts : List IT) (es vs : List Expr) (nm : List Str) : Bool := match ts, es, vs, nm with
  | [.n i _, .n j _, .n l _], [.Name x _, .Name y _, .Name z _], [_, _, _], [x', y', z'] => slotB c i x && (slotB c j y && (slotB c l z && (!(i == j) && (!(i == l) && (!(j == l) && (isLoc sc x && (isLoc sc y && (isLoc sc z && ((x == x') && ((y == y') && (z == z')))))))))))
  | _, _, _, _ => false
def chSwap (c : Ck) (sc : Scope) (ts : List IT) (es vs : List Expr) : Bool := match swapP (fun x => sc.names.lookup x) .function es vs with
  | some none => es.all plainE && ((es.length == ts.length) && chTs c sc ts es)
  | some (some nm) => par2 c sc ts es vs nm || par3 c sc ts es vs nm
  | none => false
mutual
def chS (c : Ck) (sc : Scope) : IS → Stmt → Bool
  | .asg t e, st => match st with
    | .Assign [tg] v _ => (match t with
      | .n i m => (match tg with
        | .Name x _ => slotB c i x && (locB sc x && chV c sc e v)
        | _ => false)
      | .t l => (match tg with
        | .Tuple es k p => notTup v && (chE c sc e v && chG c allB sc (.t l) (.Tuple es k p))
        | _ => false))
    | _ => false
  | .asp ts l, st => match st with
    | .Assign [.Tuple es _ _] (.Tuple vs _ _) _ => chSwap c sc ts es vs && chA c sc l vs
    | _ => false
  | .sto i k e, st => match st with
    | .Assign [.Subscript (.Name x _) y _] v _ => slotB c i x && (visB sc x && (dbgB x && (notComp v && (plainIxB y && (chE c sc e v && chE c sc k y)))))
    | _ => false
  | .dst i k e, st => match st with
    | .Assign [.Subscript (.Name x _) y _] v _ => slotB c i x && (visB sc x && (dbgB x && (notComp v && (chE c sc e v && chE c sc k y))))
    | _ => false
  | .tst i l e, st => match st with
    | .Assign [.Subscript (.Name x _) (.Tuple es _ _) _] v _ => slotB c i x && (visB sc x && (dbgB x && (notComp v && (chE c sc e v && chA c sc l es))))
    | _ => false
  | .app i e, st => match st with
    | .Expr (.Call (.Attribute (.Name x _) m ap) [y] [] cp) _ => (m == ("append" : Str)) && (slotB c i x && (visB sc x && (dbgB x && ((ap.endLine == cp.line) && (plainE y && chE c sc e y)))))
    | _ => false
  | .ex e, st => match st with
    | .Expr v _ => notComp v && chE c sc e v
    | _ => false
  | .ret e, st => match st with
    | .Return (some v) _ => chE c sc e v
    | _ => false
  | .retN, st => match st with
    | .Return none _ => true
    | _ => false
  | .ifs t a b, st => match st with
    | .If t' p q _ => chE c sc t t' && (chB c sc a p && chB c sc b q)
    | _ => false
  | .whl t a, st => match st with
    | .While t' p [] _ => chE c sc t t' && chB c sc a p
    | _ => false
  | .fr t it a, st => match st with
    | .For tg iter p [] _ => chG c allB sc t tg && (notSet iter && (chI c sc it tg iter && chB c sc a p))
    | _ => false
  | .fri t i a, st => match st with
    | .For (.Tuple es k p) (.Call (.Attribute (.Name x q) m ap) [] [] cp) body [] _ => (m == ("items" : Str)) && (slotB c i x && (visB sc x && (dbgB x && ((ap.endLine == cp.line) && (chG c allB sc t (.Tuple es k p) && (notSet (.Call (.Attribute (.Name x q) m ap) [] [] cp) && chB c sc a body))))))
    | _ => false
  | .frk t i a, st => match st with
    | .For tg (.Name x q) p [] _ => chG c allB sc t tg && (slotB c i x && (visB sc x && (dbgB x && (notSet (.Name x q) && chB c sc a p))))
    | _ => false
  | .dpo i k, st => match st with
    | .Expr (.Call (.Attribute (.Name x _) m ap) [y] [] cp) _ => (m == ("pop" : Str)) && (slotB c i x && (visB sc x && (dbgB x && ((ap.endLine == cp.line) && (plainE y && chE c sc k y)))))
    | _ => false
  | .pas, st => match st with
    | .Pass _ => true
    | .Expr (.Constant (.str _) _ _) _ => true
    | _ => false
  | .brk, st => match st with
    | .Break _ => true
    | _ => false
  | .cnt, st => match st with
    | .Continue _ => true
    | _ => false
  | .rse _, st => match st with
    | .Raise _ _ _ => true
    | _ => false
  | .qt _, _ => false
  | .ifx _ _ _, _ => false
  | .rai _, _ => false
  | .exx _ _ _, _ => false
  | .rtx _ _ _, _ => false
  | .asx _ _ _ _ _, _ => false
def chB (c : Ck) (sc : Scope) : IB → List Stmt → Bool
  | .nil, l => match l with
    | [] => true
    | _ => false
  | .cons a r, l => match l with
    | st :: sts => chS c sc a st && chB c sc r sts
    | _ => false
end
theorem okF (c : Ck) (call : Nat → List Sl → CR) : ∀ (l : IA) (sc : Scope) (fnB : Str → Bool) (X : Cx) (B : Bs) (es : List Expr), Ct B.t c call sc fnB X → chA c sc l es = true → PA X es (RdF X.K B (evF call l))
  | .nil, sc, fnB, X, B, es, ct, h => by
    unfold chA at h
    split at h
    · exact rf_nil
    · cases h
  | .cons a l, sc, fnB, X, B, es, ct, h => by
    unfold chA at h
    split at h
    · rename_i e r
      simp only [Bool.and_eq_true] at h
      obtain ⟨h1, h2, h3⟩ := h
      exact rf_cons (okE c call a sc fnB X B e ct h2).1 (okF c call l sc fnB X B r ct h3) (star_cons h1)
    · cases h
  | .lend i l, sc, fnB, X, B, es, ct, h => by simp [chA] at h
section
variable {c : Ck} {call : Nat → List Sl → CR} {sc : Scope} {X : Cx} {B : Bs}
theorem okT1 (ct : Ct B.t c call sc allB X) : ∀ (t : IT) (e : Expr), chT1 c sc t e = true → PG X e (RdT X.K B t)
  | .n i m, e, h => by
    simp only [chT1] at h
    split at h
    · rename_i x p
      rw [Bool.and_eq_true] at h
      exact rt_name (ct.N ▸ ct.nd) (ct.N ▸ slotB_ok h.1) (ct.sc ▸ locB_ok h.2) (.inl (ct.fnb _ rfl))
    · cases h
  | .t l, e, h => rt_tup (okG ct (.t l) e h)
theorem okTs (ct : Ct B.t c call sc allB X) : ∀ (t : List IT) (es : List Expr), chTs c sc t es = true → es.all plainE = true → PGs X es (RdTs X.K B t)
  | [], [], _, _ => rts_nil
  | [], _ :: _, h, _ => by simp [chTs] at h
  | _ :: _, [], h, _ => by simp [chTs] at h
  | t :: ts, e :: es, h, hp => by
    simp only [chTs, Bool.and_eq_true] at h
    rw [List.all_cons, Bool.and_eq_true] at hp
    exact rts_cons hp.1 (okT1 ct t e h.1) (okTs ct ts es h.2 hp.2)
theorem ne_ok {i j : Nat} (h : (!(i == j)) = true) : i ≠ j := by simpa using h
theorem ok_asp (ct : Ct B.t c call sc allB X) (hk : sc.kind = .function) {ts : List IT} {l : IA} {es vs : List Expr} {k1 k2 : Nat} {p1 p2 pos : Pos} (h1 : chSwap c sc ts es vs = true) (h2 : chA c sc l vs = true) :
    PS X (.Assign [.Tuple es k1 p1] (.Tuple vs k2 p2) pos) (RdS X.K B fun r => (evF call l r).bind fun xs r1 => if xs.length ≤ SZ then (asnP ts xs r1).bind fun _ r2 => .ok .nx r2 else .stuck) := by
  have ha := okF c call l sc allB X B vs ct h2
  unfold chSwap at h1
  split at h1
  · rename_i hs
    simp only [Bool.and_eq_true] at h1
    obtain ⟨a1, a2, a3⟩ := h1
    exact rs_asp ct.calm a1 (eq_of_beq a2) (swap_none ct.sc hk hs) ha (okTs ct ts es a3 a1)
  · rename_i nm hs
    have hw := swap_none (env := X.env) (kt := k1) (k2 := k2) (p := p1) (p2 := p2) ct.sc hk hs
    rw [Bool.or_eq_true] at h1
    rcases h1 with h1 | h1
    · unfold par2 at h1
      split at h1
      · rename_i i m1 j m2 x px y py a b x' y'
        simp only [Bool.and_eq_true] at h1
        obtain ⟨b1, b2, b3, b4, b5, b6, b7⟩ := h1
        have e1 := eq_of_beq b6
        have e2 := eq_of_beq b7
        subst e1 e2
        exact rs_par2 ct.calm (ct.N ▸ ct.nd) (ct.N ▸ slotB_ok b1) (ct.N ▸ slotB_ok b2) (ne_ok b3) (ct.sc ▸ isLoc_ok b4) (ct.sc ▸ isLoc_ok b5) hw ha
      · cases h1
    · unfold par3 at h1
      split at h1
      · rename_i i m1 j m2 l' m3 x px y py z pz a b d x' y' z'
        simp only [Bool.and_eq_true] at h1
        obtain ⟨b1, b2, b3, b4, b5, b6, b7, b8, b9, b10, b11, b12⟩ := h1
        have e1 := eq_of_beq b10
        have e2 := eq_of_beq b11
        have e3 := eq_of_beq b12
        subst e1 e2 e3
        exact rs_par3 ct.calm (ct.N ▸ ct.nd) (ct.N ▸ slotB_ok b1) (ct.N ▸ slotB_ok b2) (ct.N ▸ slotB_ok b3) (ne_ok b4) (ne_ok b5) (ne_ok b6) (ct.sc ▸ isLoc_ok b7) (ct.sc ▸ isLoc_ok b8) (ct.sc ▸ isLoc_ok b9) hw ha
      · cases h1
  · cases h1
theorem ok_set (ct : Ct B.t c call sc allB X) (hk : sc.kind = .function) {i : Nat} {m : Bool} {e : IE} {v : Expr} {x : Str} {p pos : Pos} (h1 : slotB c i x = true) (h2 : locB sc x = true) (h3 : chV c sc e v = true) :
    PS X (.Assign [.Name x p] v pos) (RdS X.K B fun r => (evE call e r).bind fun x r1 => (asn (.n i m) x r1).bind fun _ r2 => .ok .nx r2) := by
  unfold chV at h3
  rw [Bool.and_eq_true, Bool.or_eq_true] at h3
  obtain ⟨h3, h4⟩ := h3
  have hf : X.fn x = true ∨ X.env.scope.names.lookup x = some .local := .inl (ct.fnb _ rfl)
  have hi : X.N[i]? = some x := ct.N ▸ slotB_ok h1
  have hl : Loc X.env.scope x := ct.sc ▸ locB_ok h2
  have hkk : X.env.scope.kind = .function := by rw [ct.sc]; exact hk
  rcases h4 with h4 | h4
  · exact rs_set (ct.N ▸ ct.nd) hi hl hf (sw_no h4) (okE c call e sc allB X B v ct h3).1
  · unfold isLC at h4
    split at h4
    · rename_i own elt t it cn elt' gens scope lp
      unfold chE at h3
      split at h3
      · rename_i elt2 g scope2 p2 heq
        cases heq
        obtain ⟨tg, iter, ifs, asy⟩ := g
        simp only [Bool.and_eq_true] at h3
        obtain ⟨a1, a2, a3, a4, a5, a6, a7, a8⟩ := h3
        have e0 : asy = 0 := eq_of_beq a1
        subst e0
        exact rs_setLc hkk hi hl hf (lc1_of (okE c call elt) (okI c call it) (okT c call cn) B ct a2 a3 a4 a5 a6 a7 a8)
      · cases h3
    · rename_i own own2 elt t it cn t2 it2 cn2 elt' gens scope lp
      unfold chE at h3
      split at h3
      · rename_i elt2 g g2 scope2 p2 heq
        cases heq
        obtain ⟨tg, iter, ifs, asy⟩ := g
        obtain ⟨tg2, iter2, ifs2, asy2⟩ := g2
        simp only [Bool.and_eq_true] at h3
        obtain ⟨a1, a2, a3, a4, a5, a6, a7, a8, a9, a10, a11, a12, a13, a14, a15⟩ := h3
        have e0 : asy = 0 := eq_of_beq a1
        have e02 : asy2 = 0 := eq_of_beq a9
        subst e0 e02
        exact rs_setLc2 hkk hi hl hf (⟨lc1_of (okE c call elt) (okI c call it) (okT c call cn) B ct a2 a3 a4 a5 a6 a7 a8, fun s H C cl fp => okI c call it2 _ _ _ B tg2 iter2 (ct.blk s H _ cl C fp) a11, fun s H C cl fp => okG (ct.blk s H _ cl C fp) t2 tg2 a12,
          fun s H C cl fp => okT c call cn2 _ _ _ B ifs2 (ct.blk s H _ cl C fp) a13, fun env => folded_ok a10, sub_ok a14, sub_ok a15⟩ : Lc2 X B tg iter _ tg2 iter2 ifs ifs2 _ own own2 t t2 (evI call it) (evI call it2) (evT call cn) (evT call cn2) (ev call elt).1)
      · cases h3
    · cases h4
end
mutual
theorem okS (c : Ck) (call : Nat → List Sl → CR) (W : Nat) {sc : Scope} {X : Cx} (B : Bs) (ct : Ct B.t c call sc allB X) (hk : sc.kind = .function) (hx : PassesOwn (model X.prog X.w) X.A X.env X.xe) : ∀ (s : IS) (st : Stmt), chS c sc s st = true → PS X st (RdS X.K B (evS call W s))
  | .asg t e, st, h => by
    unfold chS at h
    split at h
    · rename_i tg v pos
      split at h
      · rename_i i m
        split at h
        · rename_i x p
          simp only [Bool.and_eq_true] at h
          obtain ⟨h1, h2, h3⟩ := h
          exact ok_set ct hk h1 h2 h3
        · cases h
      · rename_i l
        split at h
        · rename_i es k p
          simp only [Bool.and_eq_true] at h
          obtain ⟨h2, h3, h4⟩ := h
          exact rs_tup h2 (okE c call e sc allB X B v ct h3).1 (okG ct (.t l) _ h4)
        · cases h
    · cases h
  | .asp ts l, st, h => by
    unfold chS at h
    split at h
    · rw [Bool.and_eq_true] at h
      exact ok_asp ct hk h.1 h.2
    · cases h
  | .sto i k e, st, h => by
    unfold chS at h
    split at h
    · rename_i x p2 y p3 v pos
      simp only [Bool.and_eq_true] at h
      obtain ⟨h1, h2, h3, h4, h5, h6, h7⟩ := h
      obtain ⟨d1, d2⟩ := dbgB_ok h3
      exact rs_sto (ct.N ▸ slotB_ok h1) (ct.sc ▸ visB_ok h2) d1 d2 h4 h5 (okE c call e sc allB X B v ct h6).1 (okE c call k sc allB X B y ct h7).1
    · cases h
  | .dst i k e, st, h => by
    unfold chS at h
    split at h
    · rename_i x p2 y p3 v pos
      simp only [Bool.and_eq_true] at h
      obtain ⟨h1, h2, h3, h4, h6, h7⟩ := h
      obtain ⟨d1, d2⟩ := dbgB_ok h3
      exact rs_dst (un1 ct.un) (ct.N ▸ slotB_ok h1) (ct.sc ▸ visB_ok h2) d1 d2 h4 (okE c call e sc allB X B v ct h6).1 (okE c call k sc allB X B y ct h7).1
    · cases h
  | .tst i l e, st, h => by
    unfold chS at h
    split at h
    · rename_i x p2 es k1 p4 p3 v pos
      simp only [Bool.and_eq_true] at h
      obtain ⟨h1, h2, h3, h4, h6, h7⟩ := h
      obtain ⟨d1, d2⟩ := dbgB_ok h3
      exact rs_tst (un1 ct.un) (ct.N ▸ slotB_ok h1) (ct.sc ▸ visB_ok h2) d1 d2 h4 (okE c call e sc allB X B v ct h6).1 (okA c call l sc allB X B es ct h7)
    · cases h
  | .app i e, st, h => by
    unfold chS at h
    split at h
    · rename_i x p2 m ap y cp pos
      simp only [Bool.and_eq_true] at h
      obtain ⟨h1, h2, h3, h4, h5, h6, h7⟩ := h
      obtain ⟨d1, d2⟩ := dbgB_ok h4
      have e1 := eq_of_beq h1
      subst e1
      exact rs_app (ct.N ▸ slotB_ok h2) (ct.sc ▸ visB_ok h3) d1 d2 h5 h6 (okE c call e sc allB X B y ct h7).1
    · cases h
  | .ex e, st, h => by
    unfold chS at h
    split at h
    · rename_i v pos
      rw [Bool.and_eq_true] at h
      exact rs_ex h.1 (okE c call e sc allB X B v ct h.2).1
    · cases h
  | .ret e, st, h => by
    unfold chS at h
    split at h
    · exact rs_ret (okE c call e sc allB X B _ ct h).1
    · cases h
  | .retN, st, h => by
    unfold chS at h
    split at h
    · exact rs_retN
    · cases h
  | .ifs t a b, st, h => by
    unfold chS at h
    split at h
    · simp only [Bool.and_eq_true] at h
      obtain ⟨h1, h2, h3⟩ := h
      exact rs_if (okE c call t sc allB X B _ ct h1).2.1 (okB c call W B ct hk hx a _ h2) (okB c call W B ct hk hx b _ h3)
    · cases h
  | .whl t a, st, h => by
    unfold chS at h
    split at h
    · simp only [Bool.and_eq_true] at h
      obtain ⟨h1, h2⟩ := h
      exact rs_whl hx (okE c call t sc allB X B _ ct h1).2.1 (okB c call W B ct hk hx a _ h2)
    · cases h
  | .fr t it a, st, h => by
    unfold chS at h
    split at h
    · simp only [Bool.and_eq_true] at h
      obtain ⟨h1, h2, h3, h4⟩ := h
      exact rs_for hx ct.calm (okI c call it sc allB X B _ _ ct h3) (okG ct t _ h1) (okB c call W B ct hk hx a _ h4) (folded_ok h2)
    · cases h
  | .fri t i a, st, h => by
    unfold chS at h
    split at h
    · rename_i es k1 p x q m ap cp body pos
      simp only [Bool.and_eq_true] at h
      obtain ⟨h1, h2, h3, h4, h5, h6, h7, h8⟩ := h
      obtain ⟨d1, d2⟩ := dbgB_ok h4
      have e1 := eq_of_beq h1
      subst e1
      exact rs_fri hx ct.calm (ct.N ▸ slotB_ok h2) (ct.sc ▸ visB_ok h3) d1 d2 h5 (fun B' => okG (by rw [B'.2]; exact ct) t _ h6) (fun B' => okB c call W B'.1 (by rw [B'.2]; exact ct) hk hx a _ h8) (folded_ok h7)
    · cases h
  | .frk t i a, st, h => by
    unfold chS at h
    split at h
    · simp only [Bool.and_eq_true] at h
      obtain ⟨h1, h2, h3, h4, h5, h6⟩ := h
      obtain ⟨d1, d2⟩ := dbgB_ok h4
      exact rs_frk hx ct.calm (ct.N ▸ slotB_ok h2) (ct.sc ▸ visB_ok h3) d1 d2 (okG ct t _ h1) (okB c call W B ct hk hx a _ h6) (folded_ok h5)
    · cases h
  | .dpo i k, st, h => by
    unfold chS at h
    split at h
    · rename_i x p2 m ap y cp pos
      simp only [Bool.and_eq_true] at h
      obtain ⟨h1, h2, h3, h4, h5, h6, h7⟩ := h
      obtain ⟨d1, d2⟩ := dbgB_ok h4
      have e1 := eq_of_beq h1
      subst e1
      exact rs_dpo (un1 ct.un) (ct.N ▸ slotB_ok h2) (ct.sc ▸ visB_ok h3) d1 d2 h5 h6 (okE c call k sc allB X B y ct h7).1
    · cases h
  | .pas, st, h => by
    unfold chS at h
    split at h
    · exact rs_pas
    · exact rs_doc
    · cases h
  | .brk, st, h => by
    unfold chS at h
    split at h
    · exact rs_brk
    · cases h
  | .cnt, st, h => by
    unfold chS at h
    split at h
    · exact rs_cnt
    · cases h
  | .rse cl, st, h => rs_rse
  | .qt a, st, h => by unfold chS at h; cases h
  | .ifx t a b, st, h => by unfold chS at h; cases h
  | .rai cl, st, h => by unfold chS at h; cases h
  | .exx f y l, st, h => by unfold chS at h; cases h
  | .rtx f y l, st, h => by unfold chS at h; cases h
  | .asx i m f y l, st, h => by unfold chS at h; cases h
theorem okB (c : Ck) (call : Nat → List Sl → CR) (W : Nat) {sc : Scope} {X : Cx} (B : Bs) (ct : Ct B.t c call sc allB X) (hk : sc.kind = .function) (hx : PassesOwn (model X.prog X.w) X.A X.env X.xe) : ∀ (s : IB) (st : List Stmt), chB c sc s st = true → PSs X st (RdS X.K B (evB call W s))
  | .nil, st, h => by
    unfold chB at h
    split at h
    · exact rs_nil
    · cases h
  | .cons a l, st, h => by
    unfold chB at h
    split at h
    · rw [Bool.and_eq_true] at h
      exact rs_cons (okS c call W B ct hk hx a _ h.1) (okB c call W B ct hk hx l _ h.2)
    · cases h
end
end Ev

end
section
set_option linter.all false
set_option maxHeartbeats 4000000
/-! Bodies that may raise. -/
namespace Ev
open PySem PySem.Spec PyProof.Rows L2
/-- what is wished of a statement's end, of what it raises too -/
def EnX (K : Fg) (mg : Str → Option Value) (B : Bs) (V : WX) (D : Ends) (σ : L2.St) (r : Env) (F H : Hp) : Res Fl → Prop
  | .ok fl r' => ∀ σ' F' H', Go K B σ r F H σ' r' F' H' → EndR K B D fl σ' F' H'
  | .exc c _ r' => ∀ cls dd σ' F' H', mg c = some cls → Go K B σ r F H σ' r' F' H' → V cls dd σ' H'
  | .stuck => False
def RdU (K : Fg) (mg : Str → Option Value) (B : Bs) (V : WX) (g : Env → Res Fl) : TS := fun D σ H => ∃ F r, StR K B F H σ r ∧ EnX K mg B V D σ r F H (g r)
section
variable {X : Cx} {B : Bs} {V : WX} {pos : Pos} {e c : Expr} {g : Env → Res TV} {gc : Env → Res Bool} {gs gt : Env → Res Fl}
theorem EnX.ns {K : Fg} {mg : Str → Option Value} {D : Ends} {σ : L2.St} {r : Env} {F H : Hp} {o : Res Fl} (h : EnX K mg B V D σ r F H o) : o ≠ .stuck := fun e => by
  rw [e] at h
  exact h
theorem EnX.go {K : Fg} {mg : Str → Option Value} {D : Ends} {σ σ1 : L2.St} {r r1 : Env} {F H F1 H1 : Hp} {o : Res Fl} (h : EnX K mg B V D σ r F H o) (g : Go K B σ r F H σ1 r1 F1 H1) : EnX K mg B V D σ1 r1 F1 H1 o := by
  cases o with
  | ok fl r' => exact fun σ' F' H' q => h σ' F' H' (g.trans q)
  | exc c d r' => exact fun cls dd σ' F' H' hc q => h cls dd σ' F' H' hc (g.trans q)
  | stuck => exact h
theorem PS.lift {st : Stmt} (h : PS X st (RdS X.K B gs)) : PS X st (RdU X.K X.mg B V fun r => nx (gs r)) := PS.imp h fun D σ H ⟨F, r, s, k⟩ => by
  dsimp only at k
  cases e : gs r with
  | ok fl r' =>
    rw [e] at k
    exact ⟨F, r, s, fl, r', e, k⟩
  | exc c d r' => rw [e] at k; exact k.elim
  | stuck => rw [e] at k; exact k.elim
theorem rs_ifU {a b : List Stmt} (hc : PT X c (RdC X.K B gc)) (ha : PSs X a (RdU X.K X.mg B V gs)) (hb : PSs X b (RdU X.K X.mg B V gt)) : PS X (.If c a b pos) (RdU X.K X.mg B V fun r => (nx (gc r)).bind fun t r1 => match t with
      | true => gs r1
      | false => gt r1) := PS.imp (ps_if hc ha hb) fun D σ H ⟨F, r, s, k⟩ => by
  dsimp only at k
  obtain ⟨x, r1, e1, q⟩ := nxb_inv rfl k.ns
  refine ⟨F, r, s, x, r1, e1, fun F1 H1 p1 => ?_⟩
  rw [← q] at k
  cases x with
  | true =>
    rw [if_pos rfl]
    exact ⟨F1, r1, p1.st, k.go p1.go⟩
  | false =>
    rw [if_neg (by decide)]
    exact ⟨F1, r1, p1.st, k.go p1.go⟩
theorem rs_nilU : PSs X [] (RdU X.K X.mg B V fun r => .ok .nx r) := PSs.imp pss_nil fun D σ H ⟨F, r, s, k⟩ => k σ F H (Go.refl s)
theorem EnX.up {K : Fg} {mg : Str → Option Value} {D : Ends} {n : L2.St → Hp → Prop} {σ : L2.St} {r : Env} {F H : Hp} {o : Res Fl} (h : EnX K mg B V D σ r F H o) (hn : ∀ r', o ≠ .ok .nx r') : EnX K mg B V { D with nx := n } σ r F H o := by
  cases o with
  | ok fl r' => exact fun σ' F' H' g => (h σ' F' H' g).up fun z => hn r' (by rw [z])
  | exc c d r' => exact h
  | stuck => exact h
theorem rs_consU {st : Stmt} {sts : List Stmt} (h1 : PS X st (RdU X.K X.mg B V gs)) (h2 : PSs X sts (RdU X.K X.mg B V gt)) : PSs X (st :: sts) (RdU X.K X.mg B V fun r => match gs r with
    | .ok .nx r1 => gt r1
    | o => o) := PSs.imp (pss_cons h1 h2) fun D σ H ⟨F, r, s, k⟩ => by
  refine ⟨F, r, s, ?_⟩
  dsimp only at k
  split at k
  · rename_i r1 e1
    rw [e1]
    exact fun σ' F' H' g => ⟨F', r1, g.st, k.go g⟩
  · rename_i hn
    exact k.up hn
theorem rs_exx (hs : notComp e = true) (he : PE X e (RdEX X.K X.mg B V g)) : PS X (.Expr e pos) (RdU X.K X.mg B V fun r => (g r).bind fun _ r1 => .ok .nx r1) :=
  PS.imp (ps_expr he (sw_no hs)) fun D σ H ⟨F, r, s, k⟩ => by
    refine ⟨F, r, s, ?_⟩
    dsimp only at k
    cases e1 : g r with
    | ok x r1 =>
      rw [e1] at k
      exact fun xv F1 H1 p1 _ => k σ F1 H1 p1.go
    | exc cl d r1 =>
      rw [e1] at k
      exact fun cls dd F1 H1 hc p1 => k cls dd σ F1 H1 hc p1.go
    | stuck => rw [e1] at k; exact k
theorem rs_rtx (he : PE X e (RdEX X.K X.mg B V g)) : PS X (.Return (some e) pos) (RdU X.K X.mg B V fun r => (g r).bind fun x r1 => match x with
      | .d v => .ok (.ret false v) r1
      | .f v => .ok (.ret true v) r1
      | .s _ => .stuck) := PS.imp (ps_ret he) fun D σ H ⟨F, r, s, k⟩ => by
  refine ⟨F, r, s, ?_⟩
  dsimp only at k
  cases e1 : g r with
  | ok x r1 =>
    rw [e1] at k
    intro xv F1 H1 p1 t1
    cases x with
    | d v => exact k σ F1 H1 p1.go xv t1
    | f v =>
      obtain ⟨p, o, h1, h2, h3, h4, h5⟩ := t1
      exact k σ F1 H1 p1.go xv ⟨p, o, h1, h2, h3, h4, Classical.byContradiction fun n => s.dom.at_ p n h5⟩
    | s i => exact (show False from k).elim
  | exc cl d r1 =>
    rw [e1] at k
    exact fun cls dd F1 H1 hc p1 => k cls dd σ F1 H1 hc p1.go
  | stuck => rw [e1] at k; exact k
/-- an own class of exceptions, made of a text -/
def ClC (X : Cx) (x : Str) : Prop := ∃ C : Addr, X.mg x = some (.ref C) ∧ PySem.W.keepIn X.K (.ref C) = true ∧ PySem.W.excIn X.K C [.type "ValueError", .type "Exception", .type "BaseException", .type "object"] "ValueError.__new__" = true ∧ Raises X (.ref C)
theorem rs_rai {x m : Str} {j : Nat} {p p2 p3 : Pos} (hcm : X.calm = true) (tk : Takes X V) (hcl : ClC X x) (hg : Gl X x) (hdb : (x == ("__debug__" : Str)) = false) : PS X (.Raise (some (.Call (.Name x p) [.Constant (.str m) j p2] [] p3)) none pos) (RdU X.K X.mg B V fun r => .exc x .none r) := by
  obtain ⟨C, gC, kC, qC, rC⟩ := hcl
  refine PS.imp (ps_raise hcm tk (pmk_own PySem.F.excBase_ValueError qC gC kC rC hg hdb)) fun D σ H ⟨F, r, s, k⟩ => ?_
  exact k (.ref C) none σ F H gC (Go.refl s)
end
/-- does a body begin as one that may raise? -/
def isU : IB → Bool
  | .cons (.qt _) _ => true
  | .cons (.ifx _ _ _) _ => true
  | .cons (.rai _) _ => true
  | .cons (.exx _ _ _) _ => true
  | .cons (.rtx _ _ _) _ => true
  | _ => false
def chCallX (c : Ck) (sc : Scope) (f : Nat) (l : IA) : Expr → Bool
  | .Call (.Name x _) (e0 :: es) [] _ => (match c.fl[f]? with
      | some z => z == x
      | none => false) && (c.ex.contains f && (glB sc x && (dbgB x && ((e0 :: es).all plainE && chR c sc l (e0 :: es)))))
  | _ => false
mutual
def chU (c : Ck) (sc : Scope) : IS → Stmt → Bool
  | .qt a, st => chS c sc a st
  | .ifx t a b, st => match st with
    | .If t' p q _ => chE c sc t t' && (chUB c sc a p && chUB c sc b q)
    | _ => false
  | .rai cl, st => match st with
    | .Raise (some (.Call (.Name x _) [.Constant (.str _) _ _] [] _)) none _ => (x == cl) && (c.cs.contains x && (glB sc x && dbgB x))
    | _ => false
  | .exx f _ l, st => match st with
    | .Expr v _ => notComp v && chCallX c sc f l v
    | _ => false
  | .rtx f _ l, st => match st with
    | .Return (some v) _ => chCallX c sc f l v
    | _ => false
  | _, _ => false
def chUB (c : Ck) (sc : Scope) : IB → List Stmt → Bool
  | .nil, l => match l with
    | [] => true
    | _ => false
  | .cons a r, l => match l with
    | st :: sts => chU c sc a st && chUB c sc r sts
    | [] => false
end
section
variable {c : Ck} {call : Nat → List Sl → CR} {B : Bs} {V : WX} {sc : Scope} {X : Cx}
theorem ok_callX (ct : Ct B.t c call sc allB X) (tk : Takes X V) {f : Nat} {l : IA} {v : Expr} (h : chCallX c sc f l v = true) : PE X v (RdEX X.K X.mg B V fun r => (nx (evR call l r)).bind fun as r1 => doCall call f as r1) := by
  unfold chCallX at h
  split at h
  · rename_i x p1 e0 es p2
    simp only [Bool.and_eq_true] at h
    obtain ⟨h1, h2, h3, h4, h5, h6⟩ := h
    split at h1
    · rename_i z hz
      have e := eq_of_beq h1
      subst e
      obtain ⟨k, ad, fd, ps, F, hr, hm, hk, hb⟩ := ct.fn f _ hz
      rw [h2] at F
      exact rd_callX F hr (glB_ok ct.sc h3) hm hk hb tk h5 (dbgB_ok h4).1 ((okR c call l) sc allB X B _ ct h6).1 call f rfl
    · cases h1
  · cases h
end
mutual
theorem okU (c : Ck) (call : Nat → List Sl → CR) (W : Nat) {sc : Scope} {X : Cx} (B : Bs) (V : WX) (ct : Ct B.t c call sc allB X) (hcl : ∀ x ∈ c.cs, ClC X x) (hk : sc.kind = .function) (hx : PassesOwn (model X.prog X.w) X.A X.env X.xe) (tk : Takes X V) : ∀ (s : IS) (st : Stmt), chU c sc s st = true → PS X st (RdU X.K X.mg B V (evS call W s))
  | .qt a, st, h => by
    unfold chU at h
    exact PS.lift (okS c call W B ct hk hx a st h)
  | .ifx t a b, st, h => by
    unfold chU at h
    split at h
    · simp only [Bool.and_eq_true] at h
      obtain ⟨h1, h2, h3⟩ := h
      exact rs_ifU (okE c call t sc allB X B _ ct h1).2.1 (okUB c call W B V ct hcl hk hx tk a _ h2) (okUB c call W B V ct hcl hk hx tk b _ h3)
    · cases h
  | .rai cl, st, h => by
    unfold chU at h
    split at h
    · simp only [Bool.and_eq_true] at h
      obtain ⟨h1, h2, h3, h4⟩ := h
      have e := eq_of_beq h1
      subst e
      exact rs_rai ct.calm tk (hcl _ (by simpa using h2)) (glB_ok ct.sc h3) (dbgB_ok h4).1
    · cases h
  | .exx f y l, st, h => by
    unfold chU at h
    split at h
    · rw [Bool.and_eq_true] at h
      exact PS.imp (rs_exx h.1 (ok_callX ct tk h.2)) fun D σ H ⟨F, r, s, k⟩ => ⟨F, r, s, by
        have e : evS call W (.exx f y l) r = ((nx (evR call l r)).bind fun as r1 => doCall call f as r1).bind fun _ r2 => .ok .nx r2 := by
          show (nx (evR call l r)).bind (fun as r1 => (doCall call f as r1).bind fun _ r2 => .ok Fl.nx r2) = _
          cases nx (evR call l r) <;> rfl
        show EnX X.K X.mg B V D σ r F H _
        have k : EnX X.K X.mg B V D σ r F H (evS call W _ r) := k
        rw [e] at k
        exact k⟩
    · cases h
  | .rtx f y l, st, h => by
    unfold chU at h
    split at h
    · exact PS.imp (rs_rtx (ok_callX ct tk h)) fun D σ H ⟨F, r, s, k⟩ => ⟨F, r, s, by
        have e : evS call W (.rtx f y l) r = ((nx (evR call l r)).bind fun as r1 => doCall call f as r1).bind fun x r2 => match x with
            | .d v => .ok (.ret false v) r2
            | .f v => .ok (.ret true v) r2
            | .s _ => .stuck := by
          show (nx (evR call l r)).bind (fun as r1 => (doCall call f as r1).bind _) = _
          cases nx (evR call l r) <;> rfl
        show EnX X.K X.mg B V D σ r F H _
        have k : EnX X.K X.mg B V D σ r F H (evS call W _ r) := k
        rw [e] at k
        exact k⟩
    · cases h
  | .asg _ _, st, h => by unfold chU at h; cases h
  | .asp _ _, st, h => by unfold chU at h; cases h
  | .sto _ _ _, st, h => by unfold chU at h; cases h
  | .dst _ _ _, st, h => by unfold chU at h; cases h
  | .tst _ _ _, st, h => by unfold chU at h; cases h
  | .app _ _, st, h => by unfold chU at h; cases h
  | .ex _, st, h => by unfold chU at h; cases h
  | .ret _, st, h => by unfold chU at h; cases h
  | .retN, st, h => by unfold chU at h; cases h
  | .ifs _ _ _, st, h => by unfold chU at h; cases h
  | .whl _ _, st, h => by unfold chU at h; cases h
  | .fr _ _ _, st, h => by unfold chU at h; cases h
  | .fri _ _ _, st, h => by unfold chU at h; cases h
  | .frk _ _ _, st, h => by unfold chU at h; cases h
  | .dpo _ _, st, h => by unfold chU at h; cases h
  | .pas, st, h => by unfold chU at h; cases h
  | .brk, st, h => by unfold chU at h; cases h
  | .cnt, st, h => by unfold chU at h; cases h
  | .rse _, st, h => by unfold chU at h; cases h
  | .asx _ _ _ _ _, st, h => by unfold chU at h; cases h
theorem okUB (c : Ck) (call : Nat → List Sl → CR) (W : Nat) {sc : Scope} {X : Cx} (B : Bs) (V : WX) (ct : Ct B.t c call sc allB X) (hcl : ∀ x ∈ c.cs, ClC X x) (hk : sc.kind = .function) (hx : PassesOwn (model X.prog X.w) X.A X.env X.xe) (tk : Takes X V) : ∀ (s : IB) (st : List Stmt), chUB c sc s st = true → PSs X st (RdU X.K X.mg B V (evB call W s))
  | .nil, st, h => by
    unfold chUB at h
    split at h
    · exact rs_nilU
    · cases h
  | .cons a l, st, h => by
    unfold chUB at h
    split at h
    · rw [Bool.and_eq_true] at h
      exact rs_consU (okU c call W B V ct hcl hk hx tk a _ h.1) (okUB c call W B V ct hcl hk hx tk l _ h.2)
    · cases h
end
end Ev

end
section
set_option linter.all false
set_option maxHeartbeats 4000000
/-! Defs that call what they get and tell what came: a chain of except clauses that return texts. -/
namespace Ev
open PySem PySem.Spec PyProof.Rows L2
/-- the word that the chain gives for an exception of the class cls -/
def chainW (K : Fg) (mg : Str → Option Value) (cls : Value) : List (Str × Str) → Option Str
  | [] => none
  | (x, w) :: r => match mg x with
    | some c => (match PySem.W.exmOne K cls c with
      | some true => some w
      | some false => chainW K mg cls r
      | none => none)
    | none => none
/-- except x: return w -/
def hdsB : List ExceptHandler → Option (List (Str × Str))
  | [] => some []
  | .ExceptHandler (some (.Name x _)) none [.Return (some (.Constant (.str w) _ _)) _] _ :: r => (hdsB r).map ((x, w) :: ·)
  | _ => none
theorem hds_ok {X : Cx} : ∀ (hds : List ExceptHandler) (l : List (Str × Str)), hdsB hds = some l → (∀ p ∈ l, Gl X p.1 ∧ (p.1 == ("__debug__" : Str)) = false ∧ ∃ c, X.mg p.1 = some c) →
    ∃ L, HdsOk X hds L ∧ ∀ (Wout : WX) (D : Ends) (cls : Value) (d : Option Addr) (σ : L2.St) (H : Hp) (w : Str), chainW X.K X.mg cls l = some w → D.rt (.str w) H → wMany X.K Wout D L cls d σ H
  | [], l, h, hn => by
    cases h
    exact ⟨[], .nil, fun Wout D cls d σ H w e q => nomatch e⟩
  | hd :: r, l, h, hn => by
    unfold hdsB at h
    split at h
    · rename_i e
      cases e
    · rename_i x np w j p1 p2 p3 r' e
      cases e
      rw [Option.map_eq_some_iff] at h
      obtain ⟨l', h1, rfl⟩ := h
      obtain ⟨L, hL, hw⟩ := hds_ok r l' h1 fun p hp => hn p (List.mem_cons_of_mem _ hp)
      obtain ⟨g1, g2, c, g3⟩ := hn (x, w) List.mem_cons_self
      refine ⟨(c, fun _ _ _ D _ H => D.rt (.str w) H) :: L, .cons ⟨g1, g2, .inl g3⟩ (fun a oe cls d pn _ _ => pss_one (ps_ret pe_str)) hL, fun Wout D cls d σ H w' e q => ?_⟩
      unfold chainW at e
      rw [show X.mg x = some c from g3] at e
      dsimp only at e
      split at e
      · rename_i z
        cases e
        exact ⟨true, z, fun _ _ _ => q, fun z => (nomatch z)⟩
      · rename_i z
        exact ⟨false, z, fun z => (nomatch z), fun _ => hw Wout D cls d σ H w' e q⟩
      · cases e
    · cases h
theorem catA_gives {X : Cx} {Ng : List Str} {x a q w0 : Str} {sg : Scope} {g : Addr} {cdg : Value} {k : Cat} {h₀ : ExceptHandler} {hds : List ExceptHandler} {l : List (Str × Str)} {j : Nat} {p1 p2 p3 p8 p9 p10 : Pos} (hh : hdsB (h₀ :: hds) = some l) (hk : k.ok = some (.str w0))
    (hg : ∀ p ∈ l, sg.names.lookup p.1 = some .globalImplicit ∧ (p.1 == ("__debug__" : Str)) = false ∧ ∃ c, X.mg p.1 = some c) (ht : ∀ (c w : Str) (cls : Value), k.tbl.lookup c = some (.str w) → X.mg c = some cls → chainW X.K X.mg cls l = some w)
    (h0 : ∀ f : Addr, (L2.start Ng [V.ref f])[0]? = some (some (V.ref f))) :
    LamX.GivesTo X Ng x sg g cdg [.Try [.Expr (.Call (.Name a p1) [] [] p2) p3] (h₀ :: hds) [] [] p8, .Return (some (.Constant (.str w0) j p9)) p10] a q (TTc X.mg k) := by
  intro f c' s H Q tl act hc h
  obtain ⟨L, hL, hw⟩ := hds_ok (X := (cxOf C8.CX0 X.prog X.w X.K X.mg X.base Ng x sg g cdg X.A X.stack s H C8.E0).nox) (h₀ :: hds) l hh (fun p hp => hg p hp)
  refine ⟨_, pss_cons (ps_try_many (X := (cxOf C8.CX0 X.prog X.w X.K X.mg X.base Ng x sg g cdg X.A X.stack s H C8.E0).nox)
      (tb := fun W D σ H => ∃ Ech : XK, (∀ cls d σ' H', Ech cls d H' → W cls d σ' H') ∧ σ[0]? = some (some (.ref f)) ∧ H c' = some (LamX.CodeO c' q) ∧ tl Ech H fun _ H' => D.nx σ H')
      rfl rfl LamX.takes0 (fun W pn xe tk _ => ?_) hL) (pss_one (ps_ret pe_str)), ?_⟩
  · refine ⟨fun pins s' σ H' D I h' => ?_⟩
    obtain ⟨Ech, hW, h1, h2, h3⟩ := h'
    have hp := act W pn xe Ech p1 p2 tk hW
    have hq := pss_one (ps_expr (pos := p3) hp (sw_no rfl))
    exact hq.run pins s' σ H' D I ⟨h1, h2, h3⟩
  · refine ⟨fun cls _ H' => ∃ c w, X.mg c = some cls ∧ k.tbl.lookup c = some (.str w) ∧ Q (.str w) H', fun cls d σ' H' ⟨c, w, e1, e2, e3⟩ => ?_, h0 f, hc, ?_⟩
    · exact hw _ _ cls d σ' H' w (ht c w cls e2 e1) e3
    · unfold TTc okQ at h
      rw [hk] at h
      exact h
end Ev

end
section
set_option linter.all false
set_option maxHeartbeats 4000000
/-! Each def keeps the promise that the evaluator's call tells. -/
namespace Ev
open PySem PySem.Spec PyProof.Rows L2
section
variable {K : Fg} {F H : Hp}
theorem ArgsR.length : ∀ {vs : List V} {ss : List Sl}, ArgsR K F H vs ss → vs.length = ss.length
  | _, _, .nil => rfl
  | _, _, .v _ r => by rw [List.length_cons, List.length_cons, r.length]
  | _, _, .l _ _ _ r => by rw [List.length_cons, List.length_cons, r.length]
theorem ArgsR.get : ∀ {vs : List V} {ss : List Sl}, ArgsR K F H vs ss → ∀ (i : Nat) (s : Sl), ss[i]? = some s → (∃ d x, s = .val d ∧ vs[i]? = some x ∧ Rp K F x d) ∨ ∃ d a o, s = .bor d ∧ vs[i]? = some (.ref a) ∧ H a = some o ∧ F a = none ∧ ObR K F o d ∧ a ∈ lentA vs ss
  | _, _, .nil, i, s, h => by simp at h
  | _, _, .v (x := x) (d := d) hx r, 0, s, h => by
    simp only [List.getElem?_cons_zero, Option.some.injEq] at h
    exact .inl ⟨d, x, h.symm, rfl, hx⟩
  | _, _, .l (a := a) (o := o) (d := d) h1 h2 h3 r, 0, s, h => by
    simp only [List.getElem?_cons_zero, Option.some.injEq] at h
    exact .inr ⟨d, a, o, h.symm, rfl, h1, h2, h3, List.mem_cons_self⟩
  | _, _, .v (x := x) (d := d) (vs := vs) (ss := ss) hx r, i + 1, s, h => by
    simp only [List.getElem?_cons_succ] at h ⊢
    have el : lentA (x :: vs) (.val d :: ss) = lentA vs ss := by cases x <;> rfl
    rw [el]
    exact r.get i s h
  | _, _, .l (a := a) h1 h2 h3 r, i + 1, s, h => by
    simp only [List.getElem?_cons_succ] at h ⊢
    rcases r.get i s h with z | ⟨d, a, o, e1, e2, e3, e4, e5, e6⟩
    · exact .inl z
    · exact .inr ⟨d, a, o, e1, e2, e3, e4, e5, List.mem_cons_of_mem _ e6⟩
theorem ArgsR.inj : ∀ {vs : List V} {ss : List Sl}, ArgsR K F H vs ss → (lentA vs ss).Nodup → ∀ (i j : Nat) (d e : D) (a : Addr), ss[i]? = some (.bor d) → ss[j]? = some (.bor e) → vs[i]? = some (.ref a) → vs[j]? = some (.ref a) → i = j
  | _, _, .nil, _, i, j, d, e, a, h, _, _, _ => by simp at h
  | _, _, .v (x := x) (d := d0) (vs := vs) (ss := ss) hx r, n, i, j, d, e, a, h1, h2, h3, h4 => by
    have el : lentA (x :: vs) (.val d0 :: ss) = lentA vs ss := by cases x <;> rfl
    rw [el] at n
    cases i with
    | zero => simp at h1
    | succ i =>
      cases j with
      | zero => simp at h2
      | succ j =>
        simp only [List.getElem?_cons_succ] at h1 h2 h3 h4
        rw [r.inj n i j d e a h1 h2 h3 h4]
  | _, _, .l (a := a0) (vs := vs) (ss := ss) g1 g2 g3 r, n, i, j, d, e, a, h1, h2, h3, h4 => by
    have n' : a0 ∉ lentA vs ss ∧ (lentA vs ss).Nodup := List.nodup_cons.mp n
    cases i with
    | zero =>
      simp only [List.getElem?_cons_zero, Option.some.injEq] at h3
      cases h3
      cases j with
      | zero => rfl
      | succ j =>
        simp only [List.getElem?_cons_succ] at h2 h4
        rcases r.get j _ h2 with ⟨_, _, q, _⟩ | ⟨_, a', _, _, q, _, _, _, hm⟩
        · cases q
        · rw [h4] at q; cases q
          exact absurd hm n'.1
    | succ i =>
      simp only [List.getElem?_cons_succ] at h1 h3
      cases j with
      | zero =>
        simp only [List.getElem?_cons_zero, Option.some.injEq] at h4
        cases h4
        rcases r.get i _ h1 with ⟨_, _, q, _⟩ | ⟨_, a', _, _, q, _, _, _, hm⟩
        · cases q
        · rw [h3] at q; cases q
          exact absurd hm n'.1
      | succ j =>
        simp only [List.getElem?_cons_succ] at h2 h4
        rw [r.inj n'.2 i j d e a h1 h2 h3 h4]
theorem ArgsR.lent : ∀ {vs : List V} {ss : List Sl}, ArgsR K F H vs ss → ∀ a ∈ lentA vs ss, ∃ (i : Nat) (d : D), ss[i]? = some (.bor d) ∧ vs[i]? = some (.ref a)
  | _, _, .nil, a, h => nomatch h
  | _, _, .v (x := x) (d := d0) (vs := vs) (ss := ss) hx r, a, h => by
    have el : lentA (x :: vs) (.val d0 :: ss) = lentA vs ss := by cases x <;> rfl
    rw [el] at h
    obtain ⟨i, d, e1, e2⟩ := r.lent a h
    exact ⟨i + 1, d, by simpa using e1, by simpa using e2⟩
  | _, _, .l (a := a0) (d := d0) (vs := vs) (ss := ss) g1 g2 g3 r, a, h => by
    rcases List.mem_cons.mp (show a ∈ a0 :: lentA vs ss from h) with rfl | h
    · exact ⟨0, d0, rfl, rfl⟩
    · obtain ⟨i, d, e1, e2⟩ := r.lent a h
      exact ⟨i + 1, d, by simpa using e1, by simpa using e2⟩
theorem outs_bor : ∀ {ss : List Sl} {r' : Env} {outs : List D}, outsOf ss r' = some outs → ∀ (j : Nat) (d : D), ss[j]? = some (.bor d) → ∃ d', r'[j]? = some (.bor d')
  | [], _, _, _, j, d, h => by simp at h
  | .bor d0 :: l, .bor d1 :: r, outs, e, 0, d, h => ⟨d1, rfl⟩
  | .bor d0 :: l, .bor d1 :: r, outs, e, j + 1, d, h => by
    simp only [List.getElem?_cons_succ] at h ⊢
    obtain ⟨o, e1, _⟩ := Option.map_eq_some_iff.mp (show (outsOf l r).map (d1 :: ·) = some outs from e)
    exact outs_bor e1 j d h
  | .bor d0 :: l, [], outs, e, j, d, h => by cases e
  | .bor d0 :: l, .un :: r, outs, e, j, d, h => by cases e
  | .bor d0 :: l, .val _ :: r, outs, e, j, d, h => by cases e
  | .bor d0 :: l, .own _ :: r, outs, e, j, d, h => by cases e
  | .bor d0 :: l, .lck :: r, outs, e, j, d, h => by cases e
  | .lck :: l, [], outs, e, j, d, h => by cases e
  | .un :: l, [], outs, e, j, d, h => by cases e
  | .val _ :: l, [], outs, e, j, d, h => by cases e
  | .own _ :: l, [], outs, e, j, d, h => by cases e
  | .un :: l, s :: r, outs, e, j, d, h => by
    cases j with
    | zero => simp at h
    | succ j => exact outs_bor (show outsOf l r = some outs from e) j d (by simpa using h)
  | .val _ :: l, s :: r, outs, e, j, d, h => by
    cases j with
    | zero => simp at h
    | succ j => exact outs_bor (show outsOf l r = some outs from e) j d (by simpa using h)
  | .lck :: l, s :: r, outs, e, j, d, h => by
    cases j with
    | zero => simp at h
    | succ j => exact outs_bor (show outsOf l r = some outs from e) j d (by simpa using h)
  | .own _ :: l, s :: r, outs, e, j, d, h => by
    cases j with
    | zero => simp at h
    | succ j => exact outs_bor (show outsOf l r = some outs from e) j d (by simpa using h)
theorem outs_of {F' H' : Hp} : ∀ {vs : List V} {ss : List Sl}, ArgsR K F H vs ss → ∀ {r' : Env} {outs : List D}, outsOf ss r' = some outs →
    (∀ (j : Nat) (a : Addr) (d d' : D), vs[j]? = some (.ref a) → ss[j]? = some (.bor d) → r'[j]? = some (.bor d') → ∃ o, H' a = some o ∧ F' a = none ∧ ObR K F' o d') → OutsR K F' H' (lentA vs ss) outs
  | _, _, .nil, r', outs, e, hp => by
    cases (show some [] = some outs from e)
    exact .nil
  | _, _, .v (x := x) (d := d0) (vs := vs) (ss := ss) hx r, r', outs, e, hp => by
    have el : lentA (x :: vs) (.val d0 :: ss) = lentA vs ss := by cases x <;> rfl
    rw [el]
    cases r' with
    | nil => cases e
    | cons s r' => exact outs_of r (show outsOf ss r' = some outs from e) fun j a d d' h1 h2 h3 => hp (j + 1) a d d' (by simpa using h1) (by simpa using h2) (by simpa using h3)
  | _, _, .l (a := a0) (d := d0) (vs := vs) (ss := ss) g1 g2 g3 r, r', outs, e, hp => by
    cases r' with
    | nil => cases e
    | cons s r' =>
      cases s with
      | bor d1 =>
        obtain ⟨o, e1, e2⟩ := Option.map_eq_some_iff.mp (show (outsOf ss r').map (d1 :: ·) = some outs from e)
        subst e2
        obtain ⟨ob, q1, q2, q3⟩ := hp 0 a0 d0 d1 rfl rfl rfl
        exact .cons q1 q2 q3 (outs_of r e1 fun j a d d' h1 h2 h3 => hp (j + 1) a d d' (by simpa using h1) (by simpa using h2) (by simpa using h3))
      | un => cases e
      | val _ => cases e
      | own _ => cases e
      | lck => cases e
end
/-- a def of the text: what the evaluator runs, what the row has -/
structure Dt where
  df : Df
  args : Arguments
  body : List Stmt
  sc : Scope
  /-- its own name; that of its df is the global one -/
  nm : Str
abbrev Dt.ps (d : Dt) : List Str := d.df.names.take d.df.np
/-- the defs that may raise -/
def exT (T : List Dt) : List Nat := (List.range T.length).filter fun i => match T[i]? with
  | some d => isU d.df.body
  | none => false
def ckOf (T : List Dt) (bs : List Str) (gl : List (Str × D)) (cs : List Str) (ca : List (Str × Cat)) (N : List Str) : Ck := ⟨N, T.map (·.df.name), bs, gl, exT T, cs, ca⟩
/-- the defs that make lambdas, and the catchers -/
abbrev Lm := List Str × List (Str × Cat)
def caAt (ca : Lm) (x : Str) : List (Str × Cat) := if ca.1.contains x = true then ca.2 else []
def chX (T : List Dt) (bs : List Str) (gl : List (Str × D)) (cs : List Str) (ca : Lm) (d : Dt) : Bool := C8.scC d.df.names d.ps d.sc && (decide (d.df.np ≤ d.df.names.length) &&
  (if isU d.df.body = true then chUB (ckOf T bs gl cs (caAt ca d.df.name) d.df.names) d.sc d.df.body d.body else chB (ckOf T bs gl cs (caAt ca d.df.name) d.df.names) d.sc d.df.body d.body))
def chD (T : List Dt) (bs : List Str) (gl : List (Str × D)) (d : Dt) : Bool := chX T bs gl [] ([], []) d
theorem exT_at {T : List Dt} {i : Nat} {d : Dt} (h : T[i]? = some d) : (exT T).contains i = isU d.df.body := by
  have hi : i < T.length := (List.getElem?_eq_some_iff.mp h).1
  cases e : isU d.df.body with
  | true =>
    rw [List.contains_iff_mem]
    refine List.mem_filter.mpr ⟨List.mem_range.mpr hi, ?_⟩
    rw [h]
    exact e
  | false =>
    cases q : (exT T).contains i with
    | false => rfl
    | true =>
      have := (List.mem_filter.mp (List.contains_iff_mem.mp q)).2
      rw [h] at this
      rw [show isU d.df.body = true from this] at e
      cases e
/-- a class of exceptions that the text's top made -/
def ClK (K : Fg) (mg : Str → Option Value) (x : Str) : Prop := ∃ C : Addr, mg x = some (.ref C) ∧ PySem.W.keepIn K (.ref C) = true ∧ PySem.W.excIn K C [.type "ValueError", .type "Exception", .type "BaseException", .type "object"] "ValueError.__new__" = true ∧
  PySem.W.subIn K (.ref C) (.type "BaseException") = some true ∧ PySem.W.typeIn K (.ref C) = some (.type "type")
/-- what is known of the text's names behind its top -/
structure Txt (K : Fg) (w : World) (mg : Str → Option Value) (T : List Dt) (bs : List Str) (gl : List (Str × D)) (cs : List Str) (ad : Nat → Addr) (fd : Nat → FuncData) : Prop where
  cls : ∀ x ∈ cs, ClK K mg x
  fns : ∀ (i : Nat) (d : Dt), T[i]? = some d → FunD K d.nm d.nm d.args d.body d.sc [] [] (ad i) (fd i) ∧ mg d.df.name = some (.ref (ad i)) ∧ Binds K (fd i) d.ps []
  bs : ∀ x ∈ bs, mg x = none
  gl : ∀ (x : Str) (d : D), gl.lookup x = some d → GlD K w mg x d
theorem start_get {N : List Str} {vs : List V} {i : Nat} {x : V} (h : vs[i]? = some x) : (L2.start N vs)[i]? = some (some x) := by
  unfold L2.start
  have hl := (List.getElem?_eq_some_iff.mp h).1
  rw [List.getElem?_append_left (by simpa using hl), List.getElem?_map, h]
  rfl
theorem start_st {K : Fg} {F H : Hp} {N : List Str} {vs : List V} {ss : List Sl} {n : Nat} {tl : List (Addr × Str)} (tb : LamX.Tabs tl H ∧ ∀ a ps, F a ≠ some (.tbl ps)) (sb : Sub F H) (a : ArgsR K F H vs ss) (nd : (lentA vs ss).Nodup) (hn : n = N.length - vs.length) (hle : vs.length ≤ N.length) :
    StR K ⟨H, fun i a => (L2.start N vs)[i]? = some (some (.ref a)), fun _ _ => False, tl⟩ F H (L2.start N vs) (ss ++ List.replicate n .un) := by
  have gs : ∀ {i : Nat} {s : Sl}, (ss ++ List.replicate n .un)[i]? = some s → s ≠ .un → ss[i]? = some s := fun {i s} h hne => by
    by_cases hi : i < ss.length
    · rw [List.getElem?_append_left hi] at h; exact h
    · rw [List.getElem?_append_right (by omega)] at h
      rw [List.getElem?_replicate] at h
      split at h
      · cases h; exact absurd rfl hne
      · cases h
  have gb : ∀ {i : Nat} {d : D}, ((ss ++ List.replicate n .un)[i]? = some (.own d) ∨ (ss ++ List.replicate n .un)[i]? = some (.bor d)) → ∃ a o, ss[i]? = some (.bor d) ∧ vs[i]? = some (.ref a) ∧ H a = some o ∧ F a = none ∧ ObR K F o d := fun {i d} h => by
    rcases h with h | h
    · rcases a.get i _ (gs h (by simp)) with ⟨_, _, q, _⟩ | ⟨_, _, _, q, _⟩ <;> cases q
    · have h' := gs h (by simp)
      rcases a.get i _ h' with ⟨_, _, q, _⟩ | ⟨_, a, o, q, e2, e3, e4, e5, _⟩
      · cases q
      · cases q
        exact ⟨a, o, h', e2, e3, e4, e5⟩
  refine ⟨sb, ⟨fun _ h => h, tb.1, tb.2⟩, ?_, fun i d h => ?_, fun i d h => ?_, fun i d p h w => ?_, fun i d p h w => w, fun i j d e p h1 h2 w1 w2 => ?_, fun i h => ?_⟩
  · unfold L2.start
    rw [List.length_append, List.length_append, List.length_map, List.length_replicate, List.length_replicate, ← a.length, hn]
  · rcases a.get i _ (gs h (by simp)) with ⟨d', x, q, e2, e3⟩ | ⟨_, _, _, q, _⟩
    · cases q
      exact ⟨x, start_get e2, e3⟩
    · cases q
  · obtain ⟨p, o, e1, e2, e3, e4, e5⟩ := gb h
    exact ⟨p, o, start_get e2, e3, e4, e5⟩
  · rcases a.get i _ (gs h (by simp)) with ⟨_, _, q, _⟩ | ⟨_, _, _, q, _⟩ <;> cases q
  · obtain ⟨p1, o1, e1, e2, _⟩ := gb h1
    obtain ⟨p2, o2, e3, e4, _⟩ := gb h2
    rw [start_get e2] at w1
    rw [start_get e4] at w2
    cases w1
    cases w2
    exact a.inj nd i j d e p e1 e3 e2 e4
  · rcases a.get i _ (gs h (by simp)) with ⟨_, _, q, _⟩ | ⟨_, _, _, q, _⟩ <;> cases q
/-- a body's end is the call's end -/
theorem call_end {K : Fg} {F H F' H' : Hp} {tl : List (Addr × Str)} {N : List Str} {vs : List V} {ss : List Sl} {n : Nat} {σ' : L2.St} {r' : Env} {nw : Bool} {v : D} {outs : List D} {x : V} (a : ArgsR K F H vs ss)
    (g : Go K ⟨H, fun i a => (L2.start N vs)[i]? = some (some (.ref a)), fun _ _ => False, tl⟩ (L2.start N vs) (ss ++ List.replicate n .un) F H σ' r' F' H') (ho : outsOf ss r' = some outs) (tv : TvR K H [] F' H' (if nw = true then .f v else .d v) x) : CallP K tl F H (lentA vs ss) nw v outs x F' H' := by
  have ow : ∀ p, Own (L2.start N vs) (ss ++ List.replicate n .un) p → ∃ (i : Nat) (d : D), ss[i]? = some (.bor d) ∧ vs[i]? = some (.ref p) ∧ p ∈ lentA vs ss := fun p ⟨i, d, h, w⟩ => by
    have hs : ss[i]? = some (.bor d) := by
      have key : ∀ s : Sl, (ss ++ List.replicate n .un)[i]? = some s → s ≠ .un → ss[i]? = some s := fun s h hne => by
        by_cases hi : i < ss.length
        · rw [List.getElem?_append_left hi] at h; exact h
        · rw [List.getElem?_append_right (by omega), List.getElem?_replicate] at h
          split at h
          · cases h; exact absurd rfl hne
          · cases h
      rcases h with h | h
      · rcases a.get i _ (key _ h (by simp)) with ⟨_, _, q, _⟩ | ⟨_, _, _, q, _⟩ <;> cases q
      · exact key _ h (by simp)
    rcases a.get i _ hs with ⟨_, _, q, _⟩ | ⟨_, a', o, q, e2, _, _, _, hm⟩
    · cases q
    · rw [start_get e2] at w
      cases w
      exact ⟨i, d, hs, e2, hm⟩
  have ob : ∀ (j : Nat) (p : Addr) (d d' : D), vs[j]? = some (.ref p) → ss[j]? = some (.bor d) → r'[j]? = some (.bor d') → ∃ o, H' p = some o ∧ F' p = none ∧ ObR K F' o d' := fun j p d d' h1 h2 h3 => by
    obtain ⟨a', o, e1, e2, e3, e4⟩ := g.st.obj j d' (.inr h3)
    have e5 := g.st.lnt j d' a' h3 e1
    have e6 : (L2.start N vs)[j]? = some (some (.ref a')) := e5
    rw [start_get h1] at e6
    cases e6
    exact ⟨o, e2, e3, e4⟩
  refine ⟨g.st.sub, g.st.dom.nt, g.mono, g.frame.less (fun p z => by
    obtain ⟨_, _, _, _, hm⟩ := ow p z
    exact .inl hm), g.st.dom.tb, g.dom, fun p h => ?_, tv, outs_of a ho ob⟩
  · rcases g.fr p h with z | z | z
    · exact .inl z
    · exact .inr z
    · obtain ⟨i, d, h1, h2, _⟩ := ow p z
      obtain ⟨d', h3⟩ := outs_bor ho i d h1
      obtain ⟨o, _, q, _⟩ := ob i p d d' h2 h1 h3
      exact absurd q h
theorem call_exc {K : Fg} {F H F' H' : Hp} {tl : List (Addr × Str)} {N : List Str} {vs : List V} {ss : List Sl} {n : Nat} {σ' : L2.St} {r' : Env} (a : ArgsR K F H vs ss) (ln : lentA vs ss = [])
    (g : Go K ⟨H, fun i a => (L2.start N vs)[i]? = some (some (.ref a)), fun _ _ => False, tl⟩ (L2.start N vs) (ss ++ List.replicate n .un) F H σ' r' F' H') : CallP K tl F H [] false .none [] .non F' H' := by
  have no : ∀ p, ¬ Own (L2.start N vs) (ss ++ List.replicate n .un) p := fun p ⟨i, d, h, w⟩ => by
    have key : ∀ s : Sl, (ss ++ List.replicate n .un)[i]? = some s → s ≠ .un → ss[i]? = some s := fun s h hne => by
      by_cases hi : i < ss.length
      · rw [List.getElem?_append_left hi] at h; exact h
      · rw [List.getElem?_append_right (by omega), List.getElem?_replicate] at h
        split at h
        · cases h; exact absurd rfl hne
        · cases h
    rcases h with h | h
    · rcases a.get i _ (key _ h (by simp)) with ⟨_, _, q, _⟩ | ⟨_, _, _, q, _⟩ <;> cases q
    · rcases a.get i _ (key _ h (by simp)) with ⟨_, _, q, _⟩ | ⟨_, _, _, _, _, _, _, _, hm⟩
      · cases q
      · rw [ln] at hm
        exact nomatch hm
  refine ⟨g.st.sub, g.st.dom.nt, g.mono, g.frame.less (fun p z => absurd z (no p)), g.st.dom.tb, g.dom, fun p h => ?_, .non, .nil⟩
  rcases g.fr p h with z | z | z
  · exact .inl z
  · exact .inr z
  · exact absurd z (no p)
theorem endCall_inv {ss : List Sl} {b : Bool} {v : D} {r' : Env} {fr : Bool} {w : D} {outs : List D} (h : endCall ss b v r' = .ok fr w outs) : b = fr ∧ v = w ∧ outsOf ss r' = some outs := by
  unfold endCall at h
  split at h
  · rename_i os e
    cases h
    exact ⟨rfl, rfl, e⟩
  · cases h
/-- what is known of the lambdas: the catchers, and of each def that makes lambdas its code object's table -/
structure Lms (P : Program) (w : World) (K : Fg) (mg : Str → Option Value) (base : Heap) (T : List Dt) (ca : Lm) (fd : Nat → FuncData) (tl : List (Addr × Str)) : Prop where
  cat : ∀ (x : Str) (k : Cat), ca.2.lookup x = some k → CatK P w K mg base k x
  at_ : ∀ (i : Nat) (d : Dt), T[i]? = some d → ca.1.contains d.df.name = true → ∃ cA Pt : Addr, (fd i).code = .ref cA ∧ LamX.TabB base mg cA Pt ∧ (Pt, d.nm ++ ".<locals>." ++ "<lambda>") ∈ tl ∧ ∀ p ∈ tl, p.1 = Pt → p.2 = d.nm ++ ".<locals>." ++ "<lambda>"
theorem lms0 {P : Program} {w : World} {K : Fg} {mg : Str → Option Value} {base : Heap} {T : List Dt} {fd : Nat → FuncData} {tl : List (Addr × Str)} : Lms P w K mg base T ([], []) fd tl :=
  ⟨fun _ _ h => (nomatch h), fun _ _ _ h => (nomatch h)⟩
/-- such a def, its code told -/
theorem fund_ok {P : Program} {w : World} {K : PySem.W.Frag} {mg : Str → Option Value} {base : Heap} {x qual : Str} {params : Arguments} {body : List Stmt} {scope : Scope} {dvs : List V} {kws : List (Str × V)} {f : Addr} {fd : FuncData} {CX : CXT} {N ps : List Str} {k : Nat} {sp : Sp} (F : FunD K x qual params body scope dvs kws f fd) (S : FnScope N ps scope) (len : ∀ vs H Q E, sp vs H Q E → vs.length = ps.length)
    (hbody : ∀ (cdv : Value) (A : Around) (outer : List PySem.Env) (s : Shared) (H : Hp) (vs : List V) (Q : VK) (E : XK), fd.code = cdv → Room k (A.deeper (envOfC qual scope s.heap.objs.size f cdv)) → sp vs H Q E →
      ∃ t, PSs (cxOf CX P w K mg base N qual scope f cdv A outer s H E) body t ∧ t { nx := fun _ H' => Q .non H', rt := Q } (L2.start N vs) H) : FnOk P w K mg base CX (k + 1) f fd ps sp := by
  obtain ⟨oc, od, dV, kV, doc, pm, an, cdv, ct, osl, rfl, lk, hcd, _, _⟩ := F.ex
  exact fn_of lk hcd S len fun A outer s H vs Q E hr hsp => hbody cdv A outer s H vs Q E rfl hr hsp
section
variable {P : Program} {w : World} {K : Fg} {mg : Str → Option Value} {base : Heap} {T : List Dt} {bs : List Str} {gl : List (Str × D)} {cs : List Str} {ca : Lm} {ad : Nat → Addr} {fd : Nat → FuncData}
/-- every def keeps its promise -/
theorem all_ok (t : Txt K w mg T bs gl cs ad fd) (hch : T.all (chX T bs gl cs ca) = true) (W : Nat) (tl : List (Addr × Str)) (lm : Lms P w K mg base T ca fd tl) : ∀ (n i : Nat) (d : Dt) (CX : CXT), T[i]? = some d → (CX = L2.CX P w ∨ isU d.df.body = false) → FnOk P w K mg base CX (3 * n) (ad i) (fd i) d.ps (spOf K mg tl ((exT T).contains i) (callN (T.map (·.df)) W n i))
  | 0, i, d, CX, hd, hcx => ⟨fun vs H Q E ⟨F, ss, _, _, _, _, q⟩ => (by rcases q with ⟨fr, v, outs, e, _⟩ | ⟨_, c, d, e, _⟩ <;> cases e), fun A outer s H args us vs Q E hr he hb hv ⟨F, ss, _, _, _, _, q⟩ => (by rcases q with ⟨fr, v, outs, e, _⟩ | ⟨_, c, d, e, _⟩ <;> cases e)⟩
  | n + 1, i, d, CX, hd, hcx => by
    obtain ⟨F0, _, _⟩ := t.fns i d hd
    have hc : chX T bs gl cs ca d = true := List.all_eq_true.mp hch d (List.mem_of_getElem? hd)
    unfold chX at hc
    simp only [Bool.and_eq_true, decide_eq_true_eq] at hc
    obtain ⟨c1, c2, c3⟩ := hc
    have hex := exT_at hd
    have S := C8.fnScope_by c1
    have pl : d.ps.length = d.df.np := by
      show (d.df.names.take d.df.np).length = _
      rw [List.length_take]
      omega
    have e0 : (T.map (·.df))[i]? = some d.df := by rw [List.getElem?_map, hd]; rfl
    have run : ∀ (ss : List Sl) (fr : Bool) (v : D) (outs : List D), callN (T.map (·.df)) W (n + 1) i ss = .ok fr v outs → ss.length = d.df.np ∧
        ∃ fl r', evB (callN (T.map (·.df)) W n) W d.df.body (ss ++ List.replicate (d.df.names.length - d.df.np) .un) = .ok fl r' ∧ outsOf ss r' = some outs ∧ ((fl = .nx ∧ fr = false ∧ v = .none) ∨ fl = .ret fr v) := fun ss fr v outs e => by
      unfold callN at e
      rw [e0] at e
      dsimp only at e
      unfold runDef at e
      split at e
      · rename_i hl
        refine ⟨hl, ?_⟩
        split at e
        · rename_i r' hr
          obtain ⟨h1, h2, h3⟩ := endCall_inv e
          exact ⟨_, _, hr, h3, .inl ⟨rfl, h1.symm, h2.symm⟩⟩
        · rename_i b u r' hr
          obtain ⟨h1, h2, h3⟩ := endCall_inv e
          subst h1 h2
          exact ⟨_, _, hr, h3, .inr rfl⟩
        · cases e
        · cases e
        · cases e
      · cases e
    have runX : ∀ (ss : List Sl) (c : Str) (dd : D), callN (T.map (·.df)) W (n + 1) i ss = .exc c dd → ss.length = d.df.np ∧ ∃ r', evB (callN (T.map (·.df)) W n) W d.df.body (ss ++ List.replicate (d.df.names.length - d.df.np) .un) = .exc c dd r' := fun ss c dd e => by
      unfold callN at e
      rw [e0] at e
      dsimp only at e
      unfold runDef at e
      split at e
      · rename_i hl
        refine ⟨hl, ?_⟩
        split at e
        · rename_i r' hr
          unfold endCall at e
          split at e <;> cases e
        · rename_i b u r' hr
          unfold endCall at e
          split at e <;> cases e
        · cases e
        · rename_i r' hr
          cases e
          exact ⟨r', hr⟩
        · cases e
      · cases e
    have len : ∀ {vs : List V} {H : Hp} {Q : VK} {E : XK}, spOf K mg tl ((exT T).contains i) (callN (T.map (·.df)) W (n + 1) i) vs H Q E → vs.length = d.ps.length := fun {vs H Q E} ⟨F, ss, _, a, _, _, q⟩ => by
      rw [a.length, pl]
      rcases q with ⟨fr, v, outs, e, _⟩ | ⟨_, c, dd, e, _⟩
      · exact (run ss fr v outs e).1
      · exact (runX ss c dd e).1
    have fnc : ∀ (j : Nat) (x : Str), (ckOf T bs gl cs (caAt ca d.df.name) d.df.names).fl[j]? = some x → ∀ X : Cx, X.prog = P → X.w = w → X.K = K → X.mg = mg → X.base = base → Room (3 * n) X.A → FnC X tl ((ckOf T bs gl cs (caAt ca d.df.name) d.df.names).ex.contains j) (callN (T.map (·.df)) W n) j x := by
      intro j x hx X h1 h2 h3 h4 h5 hr
      have hx' : (T.map (·.df.name))[j]? = some x := hx
      rw [List.getElem?_map, Option.map_eq_some_iff] at hx'
      obtain ⟨d', hd', rfl⟩ := hx'
      obtain ⟨F1, m1, b1⟩ := t.fns j d' hd'
      unfold FnC
      rw [h1, h2, h3, h4, h5]
      exact ⟨3 * n, ad j, fd j, d'.ps, all_ok t hch W tl lm n j d' (L2.CX P w) hd' (.inl rfl), hr, m1, F1.kp, b1⟩
    refine fund_ok (k := 3 * n + 2) F0 S (fun vs H Q E q => len q) fun cdv A outer s H vs Q E hcdv hr q => ?_
    have hvl := (len q).trans pl
    obtain ⟨F, ss, sb, a, nd, tb, q⟩ := q
    have ct : ∀ X : Cx, X.prog = P → X.w = w → X.K = K → X.mg = mg → X.base = base → X.A = A.deeper (envOfC d.nm d.sc s.heap.objs.size (ad i) cdv) → X.N = d.df.names → X.calm = true → X.env.scope = d.sc → (∀ x, X.fn x = true) → X.env.code = cdv → X.env.qual = d.nm ++ ".<locals>." → Ct tl (ckOf T bs gl cs (caAt ca d.df.name) d.df.names) (callN (T.map (·.df)) W n) d.sc allB X := by
      intro X h1 h2 h3 h4 h5 h6 h7 h8 h9 h10 h11 h12
      refine ⟨h7, S.nd, h8, ?_, fun x hx => by rw [h4]; exact t.bs x hx, fun j x hx => fnc j x hx X h1 h2 h3 h4 h5 (by rw [h6]; exact hr.mono (by omega)), fun x d' hx => ?_, h9, fun x _ => h10 x, fun hn => ?_⟩
      · rw [h6]
        have := hr.un
        omega
      · unfold GlC
        rw [h2, h3, h4]
        exact t.gl x d' hx
      · have hcn : ca.1.contains d.df.name = true := by
          cases z : ca.1.contains d.df.name with
          | true => rfl
          | false =>
            refine absurd ?_ hn
            show caAt ca d.df.name = []
            unfold caAt
            rw [z]
            rfl
        have hce : (ckOf T bs gl cs (caAt ca d.df.name) d.df.names).ca = ca.2 := by
          show caAt ca d.df.name = ca.2
          unfold caAt
          rw [if_pos hcn]
        obtain ⟨cA, Pt, z1, z2, z3, z4⟩ := lm.at_ i d hd hcn
        refine ⟨⟨cA, Pt, 3 * n, by rw [h4, h5]; exact z2, by rw [h11, ← hcdv, z1], by rw [h12]; exact z3, by rw [h12]; exact z4, by rw [h6]; exact hr, fun j x hx Y y1 y2 y3 y4 y5 y6 => fnc j x hx Y (y1.trans h1) (y2.trans h2) (y3.trans h3) (y4.trans h4) (y5.trans h5) y6⟩, fun x k hx => ?_⟩
        rw [h1, h2, h3, h4, h5]
        rw [hce] at hx
        exact lm.cat x k hx
    cases hu : isU d.df.body with
    | false =>
      rw [hu] at hex
      rw [if_neg (by rw [hu]; exact Bool.false_ne_true)] at c3
      have q : ∃ fr v outs, callN (T.map (·.df)) W (n + 1) i ss = .ok fr v outs ∧ ∀ x F' H', CallP K tl F H (lentA vs ss) fr v outs x F' H' → Q x H' := by
        rcases q with q | ⟨q, _⟩
        · exact q
        · rw [hex] at q
          cases q
      obtain ⟨fr, v, outs, e, k⟩ := q
      obtain ⟨hl, fl, r', eb, ho, hend⟩ := run ss fr v outs e
      refine ⟨RdS K ⟨H, fun i a => (L2.start d.df.names vs)[i]? = some (some (.ref a)), fun _ _ => False, tl⟩ (evB (callN (T.map (·.df)) W n) W d.df.body), PSs.nox ?_, ?_⟩
      · refine okB (ckOf T bs gl cs (caAt ca d.df.name) d.df.names) (callN (T.map (·.df)) W n) W ⟨H, fun i a => (L2.start d.df.names vs)[i]? = some (some (.ref a)), fun _ _ => False, tl⟩ ?_ S.kind ?_ d.df.body d.body c3
        · exact ct _ rfl rfl rfl rfl rfl rfl rfl rfl rfl (fun _ => rfl) rfl rfl
        · exact PassesOwn.never
      · refine ⟨F, _, start_st tb sb a nd (by rw [hvl]) (by rw [hvl]; exact c2), fl, r', eb, fun σ' F' H' g => ?_⟩
        rcases hend with ⟨rfl, rfl, rfl⟩ | rfl
        · exact k .non F' H' (call_end a g ho Rp.non)
        · exact fun x tv => k x F' H' (call_end a g ho tv)
    | true =>
      rw [if_pos hu] at c3
      have hcx : CX = L2.CX P w := by
        rcases hcx with z | z
        · exact z
        · rw [hu] at z
          cases z
      subst hcx
      refine ⟨RdU K mg ⟨H, fun i a => (L2.start d.df.names vs)[i]? = some (some (.ref a)), fun _ _ => False, tl⟩ (fun cls dd _ H' => E cls dd H') (evB (callN (T.map (·.df)) W n) W d.df.body), ?_, ?_⟩
      · refine okUB (ckOf T bs gl cs (caAt ca d.df.name) d.df.names) (callN (T.map (·.df)) W n) W ⟨H, fun i a => (L2.start d.df.names vs)[i]? = some (some (.ref a)), fun _ _ => False, tl⟩ (fun cls dd _ H' => E cls dd H') ?_ (fun x hx => ?_) S.kind ?_ ?_ d.df.body d.body c3
        · exact ct _ rfl rfl rfl rfl rfl rfl rfl rfl rfl (fun _ => rfl) rfl rfl
        · obtain ⟨C, m1, m2, m3, m4, m5⟩ := t.cls x hx
          exact ⟨C, m1, m2, m3, raises_own m4 m5⟩
        · exact passes_of rfl
        · exact takes_of (E := E) rfl rfl rfl rfl
      · refine ⟨F, _, start_st tb sb a nd (by rw [hvl]) (by rw [hvl]; exact c2), ?_⟩
        rcases q with ⟨fr, v, outs, e, k⟩ | ⟨_, c, dd, e, ln, k⟩
        · obtain ⟨hl, fl, r', eb, ho, hend⟩ := run ss fr v outs e
          rw [eb]
          intro σ' F' H' g
          rcases hend with ⟨rfl, rfl, rfl⟩ | rfl
          · exact k .non F' H' (call_end a g ho Rp.non)
          · exact fun x tv => k x F' H' (call_end a g ho tv)
        · obtain ⟨hl, r', eb⟩ := runX ss c dd e
          rw [eb]
          exact fun cls d2 σ' F' H' hcc g => k cls d2 F' H' hcc (call_exc a ln g)
end
end Ev

end
section
set_option linter.all false
set_option maxHeartbeats 4000000
/-! The head's facts make the text's. -/
namespace Ev
open PySem PySem.Spec PyProof.Rows L2
def ddOf (d : Dt) : He.DefD := ⟨(d.df.name, none), d.nm, d.nm, d.args, d.body, d.sc, [], []⟩
/-- the world, one of its settings told -/
def setF (w : World) (b : Bool) : World := { w with params := { w.params with followText := fun x => if x == "special-get-raises" then b else w.params.followText x } }
theorem setF_eq (w : World) : setF w (w.params.followText "special-get-raises") = w := by
  have hf : (fun x => if x == "special-get-raises" then w.params.followText "special-get-raises" else w.params.followText x) = w.params.followText := by
    funext x
    by_cases h : x = "special-get-raises"
    · subst h; simp
    · simp [h]
  unfold setF
  rw [hf]
/-- a constant that is no dict -/
def glB1 (K : Fg) (p : Str × D) : Bool := match PySem.W.nsIn K mainGlobals p.1 with
  | some (some u) => dvB K 20 p.2 u
  | _ => false
abbrev Gd := List (Str × List (Str × D))
def gdE (p : Str × List (Str × D)) : Str × D := (p.1, .dict (p.2.map encS))
def exOf (gl : List (Str × D)) (gd : Gd) (K : Fg) : Bool := gl.all (glB1 K) && gd.all fun p => dctB K (He.ga K p.1) p.2
def tsOf (gd : Gd) : List He.Tab := gd.map fun p => (fun K => He.ga K p.1, p.2.map (·.1))
def faOf (T : List Dt) (bs : List Str) (gd : Gd) : List He.Fa := T.map (fun d => .glo d.df.name) ++ (bs.map .free ++ gd.map fun p => .glo p.1)
def BindOk (d : Dt) : Prop := ∀ (kV doc pm : Value) (an : Option Addr) (cdv ct : Value) (us : List Value), us.length = d.ps.length → bindArgs (PySem.W.fnOf d.nm d.nm d.args d.body d.sc .none kV doc pm an cdv ct) ⟨us, []⟩ = pure (d.ps.zip us)
def AllB : List Dt → Prop
  | [] => True
  | d :: T => BindOk d ∧ AllB T
theorem AllB.at : ∀ {T : List Dt}, AllB T → ∀ (i : Nat) (d : Dt), T[i]? = some d → BindOk d
  | [], _, i, d, h => by simp at h
  | e :: T, h, 0, d, q => by
    simp only [List.getElem?_cons_zero, Option.some.injEq] at q
    exact q ▸ h.1
  | e :: T, h, i + 1, d, q => AllB.at h.2 i d (by simpa using q)
theorem lookup_mem {x : Str} {d : D} : ∀ {l : List (Str × D)}, l.lookup x = some d → (x, d) ∈ l
  | [], h => by simp at h
  | (y, e) :: l, h => by
    rw [List.lookup_cons] at h
    split at h
    · rename_i q
      cases h
      rw [eq_of_beq q]
      exact List.mem_cons_self
    · exact List.mem_cons_of_mem _ (lookup_mem h)
theorem encS_inj : ∀ {a b : List (Str × D)}, a.map encS = b.map encS → a = b
  | [], [], _ => rfl
  | [], _ :: _, h => by cases h
  | _ :: _, [], h => by cases h
  | (x, d) :: a, (y, e) :: b, h => by
    rw [List.map_cons, List.map_cons] at h
    injection h with h1 h2
    unfold encS at h1
    injection h1 with h3 h4
    injection h3 with h3
    subst h3 h4
    rw [encS_inj h2]
section
variable {P : Program} {w : World} {K : Fg} {mg : Str → Option Value} {base : Heap} {T : List Dt} {bs : List Str} {gl : List (Str × D)} {gd : Gd} {h : Heap} {tf : List He.Defn}
theorem fact_of {fa : List He.Fa} {fn : List He.DefD} (c : He.SaysD fa fn K) {f : He.Fa} (hf : f ∈ fa) : f.ok K = true := by
  obtain ⟨i, hi⟩ := List.getElem?_of_mem hf
  exact c.fact i hi
theorem txt_of (X : K.In h) (G : h.Ns mainGlobals mg) (hbn : AllB T) (hgl : gl.all (fun p => notDict p.2) = true) {fa : List He.Fa} {ex : Fg → Bool} (hfa : ∀ f ∈ faOf T bs gd, f ∈ fa) (hxx : ex K = true → exOf gl gd K = true) (cx : He.SaysX fa (T.map ddOf) (tsOf gd) tf ex w h K) {cs : List Str} (hcs : ∀ x ∈ cs, ClK K mg x) : ∃ ad fd, Txt K w mg T bs (gl ++ gd.map gdE) cs ad fd ∧ ∀ (i : Nat) (d : Dt), T[i]? = some d → ad i = He.fAd K (d.df.name, none) := by
  have c := cx.t.d
  have one : ∀ i : Nat, ∃ p : Addr × FuncData, ∀ d : Dt, T[i]? = some d → (FunD K d.nm d.nm d.args d.body d.sc [] [] p.1 p.2 ∧ mg d.df.name = some (.ref p.1) ∧ Binds K p.2 d.ps []) ∧ p.1 = He.fAd K (d.df.name, none) := fun i => by
    cases q : T[i]? with
    | none => exact ⟨(0, default), fun d hd => by cases hd⟩
    | some d =>
      have e : (T.map ddOf)[i]? = some (ddOf d) := by rw [List.getElem?_map, q]; rfl
      obtain ⟨fd, F⟩ := c.def_ i e
      have F' : FunD K d.nm d.nm d.args d.body d.sc [] [] (He.fAd K (d.df.name, none)) fd := F
      refine ⟨(He.fAd K (d.df.name, none), fd), fun d' hd' => ?_⟩
      cases hd'
      refine ⟨⟨F', He.glo_ok X G (fact_of c (hfa _ ?_)), F'.bindsN fun kV doc pm an cdv ct us hl => hbn.at i d q kV doc pm an cdv ct us hl⟩, rfl⟩
      exact List.mem_append_left _ (List.mem_map.mpr ⟨d, List.mem_of_getElem? q, rfl⟩)
  obtain ⟨f, hf⟩ := Classical.skolem.mp one
  refine ⟨fun i => (f i).1, fun i => (f i).2, ⟨hcs, fun i d hd => (hf i d hd).1, fun x hx => He.free_ok X G (fact_of c (hfa _ ?_)), fun x d hd => ?_⟩, fun i d hd => (hf i d hd).2⟩
  · exact List.mem_append_right _ (List.mem_append_left _ (List.mem_map.mpr ⟨x, hx, rfl⟩))
  · have hm := lookup_mem hd
    have hex := hxx cx.more
    unfold exOf at hex
    rw [Bool.and_eq_true] at hex
    rcases List.mem_append.mp hm with hm | hm
    · have hg := List.all_eq_true.mp hgl _ hm
      have h1 := List.all_eq_true.mp hex.1 _ hm
      unfold glB1 at h1
      split at h1
      · rename_i u e
        obtain ⟨v, q1, q2⟩ := dvB_ok 20 d u h1
        exact ⟨fun _ => ⟨u, v, PySem.W.mg_of X G e, q1, q2 _⟩, fun ps e => by subst e; cases hg⟩
      · cases h1
    · obtain ⟨p, hp, e⟩ := List.mem_map.mp hm
      unfold gdE at e
      injection e with e1 e2
      subst e1 e2
      refine (show GlD K w mg _ _ from ⟨fun z => absurd z (by simp [notDict]), fun ps e => ?_⟩)
      injection e with e
      have e := encS_inj e
      have hf : (He.Fa.glo p.1) ∈ faOf T bs gd := List.mem_append_right _ (List.mem_append_right _ (List.mem_map.mpr ⟨p, hp, rfl⟩))
      obtain ⟨i, hi⟩ := List.getElem?_of_mem hp
      have ht : (tsOf gd)[i]? = some (fun K => He.ga K p.1, p.2.map (·.1)) := by unfold tsOf; rw [List.getElem?_map, hi]; rfl
      refine ⟨He.ga K p.1, He.glo_ok X G (fact_of c (hfa _ hf)), cx.t.tab i ht, ?_⟩
      rw [← e]
      exact List.all_eq_true.mp hex.2 p hp
def scriptD (ns : List Int) : D := .dict [(.none, .list (ns.map .int))]
/-- the law's promise: true, whatever the script -/
def spLaw (K : Fg) : Sp := fun vs H Q _ => ∃ (a : Addr) (ns : List Int), vs = [.ref a] ∧ ns.length ≤ 63 ∧ SqL K H a (ns.map V.int) ∧ ∀ H', Q (.bl true) H'
/-- the heap without its tables -/
def noTab (H : Hp) : Hp := fun a => match H a with
  | some (.tbl _) => none
  | o => o
theorem noTab_sub (H : Hp) : Sub (noTab H) H := fun a o h => by
  unfold noTab at h
  split at h
  · cases h
  · exact h
theorem noTab_nt (H : Hp) (a : Addr) (ps : Array Value) : noTab H a ≠ some (.tbl ps) := fun h => by
  unfold noTab at h
  split at h
  · cases h
  · rename_i n
    exact n ps h
theorem noTab_at {H : Hp} {a : Addr} {o : HO} (h : H a = some o) (n : ∀ ps, o ≠ .tbl ps) : noTab H a = some o := by
  unfold noTab
  split
  · rename_i ps e
    rw [h] at e
    exact absurd (Option.some.inj e) (n ps)
  · exact h
theorem noTab_sql {K : Fg} {H : Hp} {a : Addr} {xs : List V} (h : SqL K H a xs) : SqL K (noTab H) a xs := by
  rcases h with h | h
  · rcases h with h | ⟨o, h⟩
    · exact .inl (.inl (noTab_at h fun _ z => nomatch z))
    · exact .inl (.inr ⟨o, noTab_at h fun _ z => nomatch z⟩)
  · exact .inr h
theorem sp_law {cf : List Sl → CR} (pure : ∀ ns : List Int, ns.length ≤ 63 → cf [.val (scriptD ns)] = .ok false (.bool true) []) (vs : List V) (H : Hp) (Q : VK) (E : XK) (hq : spLaw K vs H Q E) {mg : Str → Option Value} {ex : Bool} : spOf K mg [] ex cf vs H Q E := by
  obtain ⟨a, ns, rfl, hn, hS, k⟩ := hq
  have hr : RpL K (noTab H) (ns.map V.int) (ns.map PyData.int) := RpL.of V.int PyData.int (fun i => .int i) ns
  refine ⟨noTab H, [.val (scriptD ns)], noTab_sub H, .v (.scr (noTab_sql hS) hr) .nil, ?_, ⟨fun p hp => (nomatch hp), noTab_nt H⟩, .inl ⟨false, .bool true, [], pure ns hn, fun x F' H' p => ?_⟩⟩
  · exact List.nodup_nil
  · have v : Rp K F' x (.bool true) := p.value
    cases v
    exact k H'
theorem facts_of {f : Addr} {W n il : Nat} (hT : T.all (chD T bs (gl ++ gd.map gdE)) = true) (hbn : AllB T) (hgl : gl.all (fun p => notDict p.2) = true) {d : Dt} (hd : T[il]? = some d) {y : Str} (hps : d.ps = [y]) (pure : ∀ ns : List Int, ns.length ≤ 63 → callN (T.map (·.df)) W n il [.val (scriptD ns)] = .ok false (.bool true) [])
    (X : K.In h) (G : h.Ns mainGlobals mg) (hfa : mg d.df.name = some (.ref f)) (c : He.SaysX (faOf T bs gd) (T.map ddOf) (tsOf gd) tf (exOf gl gd) w h K) (hu : isU d.df.body = false := by rfl) :
    ∃ fd : FuncData, (∀ (s : Shared) (v : Value), BindsTo s fd ⟨[v], []⟩ [(y, v)]) ∧ ∀ base : Heap, K.In base → base.Ns mainGlobals mg → FnOk P w K mg base L2.CX0 (3 * n) f fd [y] (spLaw K) := by
  obtain ⟨ad, fd, t, _⟩ := txt_of X G hbn hgl (fun _ h => h) (fun h => h) c (cs := []) (fun x hx => (nomatch hx))
  obtain ⟨F, m, _⟩ := t.fns il d hd
  have e := hfa.symm.trans m
  cases e
  refine ⟨fd il, fun s v => ?_, fun base _ _ => ?_⟩
  · have := FunD.bindsA (ps := d.ps) F (fun kV doc pm an cdv ct us hl => hbn.at il d hd kV doc pm an cdv ct us hl) s [v] (by rw [hps]; rfl)
    rw [hps] at this
    exact this
  · have := all_ok (P := P) (w := w) (base := base) t hT W [] lms0 n il d L2.CX0 hd (.inr hu)
    rw [hps] at this
    exact this.imp fun vs H Q E q => sp_law pure vs H Q E q
end
end Ev

end
section
set_option linter.all false
set_option maxHeartbeats 4000000
/-! The head's facts of a text with lambdas. -/
namespace Ev
open PySem PySem.Spec PyProof.Rows L2
/-- a class of exceptions -/
def clB (K : Fg) (x : Str) : Bool := PySem.W.keepIn K (.ref (He.ga K x)) && (PySem.W.excIn K (He.ga K x) [.type "ValueError", .type "Exception", .type "BaseException", .type "object"] "ValueError.__new__" &&
  ((match PySem.W.subIn K (.ref (He.ga K x)) (.type "BaseException") with
  | some b => b
  | none => false) && (match PySem.W.typeIn K (.ref (He.ga K x)) with
  | some (.type n) => n == "type"
  | _ => false)))
theorem clB_ok {K : Fg} {mg : Str → Option Value} {x : Str} (hm : mg x = some (.ref (He.ga K x))) (h : clB K x = true) : ClK K mg x := by
  unfold clB at h
  simp only [Bool.and_eq_true] at h
  obtain ⟨h1, h2, h3, h4⟩ := h
  refine ⟨_, hm, h1, h2, ?_, ?_⟩
  · split at h3
    · rename_i b e
      subst h3
      exact e
    · cases h3
  · split at h4
    · rename_i n e
      rw [e, eq_of_beq h4]
    · cases h4
def chainG (K : Fg) (cls : Value) : List (Str × Str) → Option Str
  | [] => none
  | (x, w) :: r => match PySem.W.exmOne K cls (.ref (He.ga K x)) with
    | some true => some w
    | some false => chainG K cls r
    | none => none
theorem chainG_ok {K : Fg} {mg : Str → Option Value} {cls : Value} : ∀ {l : List (Str × Str)}, (∀ p ∈ l, mg p.1 = some (.ref (He.ga K p.1))) → chainW K mg cls l = chainG K cls l
  | [], _ => rfl
  | (x, w) :: r, h => by
    unfold chainW chainG
    rw [h (x, w) List.mem_cons_self]
    dsimp only
    rw [chainG_ok fun p hp => h p (List.mem_cons_of_mem _ hp)]
    all_goals
      cases PySem.W.exmOne K cls (.ref (He.ga K x)) with
      | none => rfl
      | some b => cases b <;> rfl
def catB (K : Fg) (l : List (Str × Str)) (k : Cat) : Bool := k.tbl.all fun p => match p.2 with
  | .str w => (match chainG K (.ref (He.ga K p.1)) l with
    | some v => v == w
    | none => false)
  | _ => false
/-- the catcher's body -/
def catAB (body : List Stmt) (a w0 : Str) : Option (List (Str × Str)) := match body with
  | [.Try [.Expr (.Call (.Name b _) [] [] _) _] (h₀ :: hds) [] [] _, .Return (some (.Constant (.str w) _ _)) _] => if (b == a && w == w0) = true then hdsB (h₀ :: hds) else none
  | _ => none
theorem catK_of {P : Program} {w : World} {K : Fg} {mg : Str → Option Value} {base : Heap} {d : Dt} {k : Cat} {a w0 : Str} {l : List (Str × Str)} {f : Addr} {fd : FuncData} (F : FunD K d.nm d.nm d.args d.body d.sc [] [] f fd) (hm : mg d.nm = some (.ref f)) (hb : Binds K fd [a] [])
    (S : FnScope d.df.names [a] d.sc) (h0 : d.df.names[0]? = some a) (hv : Vis d.sc a) (hd : (a == ("__debug__" : Str)) = false ∧ (a == ("__classdict__" : Str)) = false) (hbd : catAB d.body a w0 = some l) (hk : k.ok = some (.str w0)) (hko : catOk k = true)
    (hg : ∀ p ∈ l, d.sc.names.lookup p.1 = some .globalImplicit ∧ (p.1 == ("__debug__" : Str)) = false ∧ ∃ c, mg p.1 = some c) (ht : ∀ (c w : Str) (cls : Value), k.tbl.lookup c = some (.str w) → mg c = some cls → chainW K mg cls l = some w) : CatK P w K mg base k d.nm := by
  obtain ⟨oc, od, dV, kV, doc, pm, an, cdv, ct, osl, hfd, lk, hcd, _, _⟩ := F.ex
  subst hfd
  refine ⟨a, f, d.args, d.body, d.sc, dV, kV, doc, pm, cdv, ct, oc, an, od, osl, d.df.names, hm, F.kp, lk, hcd, hb, S, h0, hv, hd.1, hd.2, hko, fun X e1 e2 e3 e4 e5 q => ?_⟩
  unfold catAB at hbd
  split at hbd
  · rename_i b p1 p2 p3 h₀ hds p8 w' j p9 p10 eb
    split at hbd
    · rename_i hbw
      rw [Bool.and_eq_true] at hbw
      obtain rfl := eq_of_beq hbw.1
      obtain rfl := eq_of_beq hbw.2
      rw [eb, ← e4]
      subst e1 e2 e3 e4 e5
      exact catA_gives hbd hk hg ht fun f => start_get rfl
    · cases hbd
  · cases hbd
/-- what is looked up of the catcher in its text -/
def catC (dC : Dt) (a w0 : Str) (l : List (Str × Str)) (cs : List Str) (k : Cat) : Bool := C8.scC dC.df.names [a] dC.sc && (decide (dC.df.names[0]? = some a) && (visB dC.sc a && (dbgB a && (decide (dC.df.name = dC.nm) && (decide (dC.ps = [a]) &&
  ((match catAB dC.body a w0 with
  | some m => m == l
  | none => false) && ((match k.ok with
  | some (.str w) => w == w0
  | _ => false) && (catOk k && l.all fun p => glB dC.sc p.1 && (dbgB p.1 && cs.contains p.1)) && k.tbl.all fun p => cs.contains p.1)))))))
def lmT (T : List Dt) (lm : List Str) : List Dt := T.filter fun d => lm.contains d.df.name
def tfL (T : List Dt) (lm : List Str) : List He.Defn := (lmT T lm).map fun d => (d.df.name, none)
def tlL (T : List Dt) (lm : List Str) (K : Fg) : List (Addr × Str) := (lmT T lm).map fun d => ((He.cT K (d.df.name, none)).2, d.nm ++ ".<locals>." ++ "<lambda>")
def tlU (l : List (Addr × Str)) : Bool := l.all fun p => l.all fun q => !(p.1 == q.1) || p.2 == q.2
def exL (gl : List (Str × D)) (gd : Gd) (cs : List Str) (T : List Dt) (lm : List Str) (l : List (Str × Str)) (k : Cat) (K : Fg) : Bool := exOf gl gd K && (cs.all (clB K) && (catB K l k && tlU (tlL T lm K)))
def faL (T : List Dt) (bs : List Str) (gd : Gd) (cs : List Str) : List He.Fa := faOf T bs gd ++ cs.map .glo
/-- the law's promise, the tables told -/
def spLawL (K : Fg) (tl : List (Addr × Str)) : Sp := fun vs H Q _ => ∃ (a : Addr) (ns : List Int), vs = [.ref a] ∧ ns.length ≤ 63 ∧ SqL K H a (ns.map V.int) ∧ LamX.Tabs tl H ∧ ∀ H', Q (.bl true) H'
theorem sp_lawL {K : Fg} {tl : List (Addr × Str)} {cf : List Sl → CR} (pure : ∀ ns : List Int, ns.length ≤ 63 → cf [.val (scriptD ns)] = .ok false (.bool true) []) (vs : List V) (H : Hp) (Q : VK) (E : XK) (hq : spLawL K tl vs H Q E) {mg : Str → Option Value} {ex : Bool} : spOf K mg tl ex cf vs H Q E := by
  obtain ⟨a, ns, rfl, hn, hS, ht, k⟩ := hq
  have hr : RpL K (noTab H) (ns.map V.int) (ns.map PyData.int) := RpL.of V.int PyData.int (fun i => .int i) ns
  refine ⟨noTab H, [.val (scriptD ns)], noTab_sub H, .v (.scr (noTab_sql hS) hr) .nil, ?_, ⟨ht, noTab_nt H⟩, .inl ⟨false, .bool true, [], pure ns hn, fun x F' H' p => ?_⟩⟩
  · exact List.nodup_nil
  · have v : Rp K F' x (.bool true) := p.value
    cases v
    exact k H'
section
variable {P : Program} {w : World} {K : Fg} {mg : Str → Option Value} {T : List Dt} {bs : List Str} {gl : List (Str × D)} {gd : Gd} {h : Heap} {cs lm : List Str} {l : List (Str × Str)} {k : Cat} {dC : Dt} {a w0 : Str}
theorem Txt.left {K : Fg} {w : World} {mg : Str → Option Value} {T C : List Dt} {bs : List Str} {gl : List (Str × D)} {cs : List Str} {ad : Nat → Addr} {fd : Nat → FuncData} (t : Txt K w mg (T ++ C) bs gl cs ad fd) : Txt K w mg T bs gl cs ad fd :=
  ⟨t.cls, fun i d hd => t.fns i d (by rw [List.getElem?_append_left (List.getElem?_eq_some_iff.mp hd).1]; exact hd), t.bs, t.gl⟩
theorem facts_ofL {f : Addr} {W n il : Nat} (hT : T.all (chX T bs (gl ++ gd.map gdE) cs (lm, [(dC.nm, k)])) = true) (hbn : AllB (T ++ [dC])) (hgl : gl.all (fun p => notDict p.2) = true) {d : Dt} (hd : T[il]? = some d) {y : Str} (hps : d.ps = [y])
    (pure : ∀ ns : List Int, ns.length ≤ 63 → callN (T.map (·.df)) W n il [.val (scriptD ns)] = .ok false (.bool true) []) (hC : catC dC a w0 l cs k = true)
    (X : K.In h) (G : h.Ns mainGlobals mg) (hfa : mg d.df.name = some (.ref f)) (c : He.SaysX (faL (T ++ [dC]) bs gd cs) ((T ++ [dC]).map ddOf) (tsOf gd) (tfL T lm) (exL gl gd cs T lm l k) w h K) (hu : isU d.df.body = false := by rfl) :
    ∃ (fd : FuncData) (csx : List (Addr × Addr)) (sp : Sp), (∀ p ∈ csx, h.get? p.2 = some { cls := .none, data := .fields #[] }) ∧ (∀ p ∈ csx, K.lookup p.2 = none) ∧ (∀ p ∈ csx, PySem.W.CodeHd h p.1 p.2) ∧ (∀ (s : Shared) (u : Value), BindsTo s fd ⟨[u], []⟩ [(y, u)]) ∧
    (∀ (H : Hp) (a : Addr) (ns : List Int), ns.length ≤ 63 → (∀ z ∈ ns, Builtin.Int.intBits z ≤ 1048576) → (∀ p ∈ csx, H p.2 = some (.tbl #[])) → SqL K H a (ns.map V.int) → sp [.ref a] H (fun v _ => v = .bl true) fun _ _ _ => False) ∧
    ∀ base : Heap, K.In base → base.Ns mainGlobals mg → (∀ p ∈ csx, LamX.TabB base mg p.1 p.2) → FnOk P w K mg base L2.CX0 (3 * n) f fd [y] sp := by
  have cm := c.more
  unfold exL at cm
  simp only [Bool.and_eq_true] at cm
  obtain ⟨cm1, cm2, cm3, cm4⟩ := cm
  have hgo : ∀ x ∈ cs, mg x = some (.ref (He.ga K x)) := fun x hx => He.glo_ok X G (fact_of c.t.d (List.mem_append_right _ (List.mem_map.mpr ⟨x, hx, rfl⟩)))
  obtain ⟨ad, fd, t2, hadd⟩ := txt_of (ex := exL gl gd cs T lm l k) X G hbn hgl (fun _ h => List.mem_append_left _ h) (fun z => by unfold exL at z; rw [Bool.and_eq_true] at z; exact z.1) c (cs := cs) fun x hx => clB_ok (hgo x hx) (List.all_eq_true.mp cm2 x hx)
  have t := t2.left
  obtain ⟨F, m, _⟩ := t.fns il d hd
  have e := hfa.symm.trans m
  cases e
  have inT : ∀ (i : Nat) (d : Dt), T[i]? = some d → (T ++ [dC])[i]? = some d := fun i d hd => by rw [List.getElem?_append_left (List.getElem?_eq_some_iff.mp hd).1]; exact hd
  have tfm : ∀ d' ∈ lmT T lm, He.cT K (d'.df.name, none) ∈ (tfL T lm).map (He.cT K) := fun d' hd' => List.mem_map.mpr ⟨_, List.mem_map.mpr ⟨d', hd', rfl⟩, rfl⟩
  refine ⟨fd il, (tfL T lm).map (He.cT K), spLawL K (tlL T lm K), fun p hp => ?_, fun p hp => ?_, fun p hp => ?_, fun s v => ?_, fun H a ns hn _ hH hS => ⟨a, ns, rfl, hn, hS, fun p hp => ?_, fun _ => rfl⟩, fun base Xb Gb hTB => ?_⟩
  · obtain ⟨q, hq, rfl⟩ := List.mem_map.mp hp
    exact c.empty q hq
  · obtain ⟨q, hq, rfl⟩ := List.mem_map.mp hp
    exact c.out q hq
  · obtain ⟨q, hq, rfl⟩ := List.mem_map.mp hp
    exact PySem.W.codeHd_of_K X (c.hd q hq)
  · have := FunD.bindsA (ps := d.ps) F (fun kV doc pm an cdv ct us hl => hbn.at il d (inT il d hd) kV doc pm an cdv ct us hl) s [v] (by rw [hps]; rfl)
    rw [hps] at this
    exact this
  · obtain ⟨d', hd', rfl⟩ := List.mem_map.mp hp
    exact LamX.TabS.nil (hH _ (tfm d' hd'))
  · have lms : Lms P w K mg base T (lm, [(dC.nm, k)]) fd (tlL T lm K) := by
      refine ⟨fun x k' hx => ?_, fun i d' hd' hl => ?_⟩
      · unfold catC at hC
        simp only [Bool.and_eq_true, decide_eq_true_eq] at hC
        obtain ⟨c1, c2, c3, c4, c5, c6, c7, c8⟩ := hC
        obtain ⟨⟨c9, c10, c11⟩, c12⟩ := c8
        have ex : x = dC.nm ∧ k' = k := by
          have hx : List.lookup x [(dC.nm, k)] = some k' := hx
          rw [List.lookup_cons] at hx
          split at hx
          · rename_i z
            cases hx
            exact ⟨eq_of_beq z, rfl⟩
          · cases hx
        obtain ⟨rfl, rfl⟩ := ex
        have hix : (T ++ [dC])[T.length]? = some dC := by rw [List.getElem?_append_right (Nat.le_refl _), Nat.sub_self]; rfl
        obtain ⟨FC, mC, bC⟩ := t2.fns T.length dC hix
        rw [c5] at mC
        rw [c6] at bC
        split at c7
        · rename_i l' hl'
          have el : l' = l := eq_of_beq c7
          subst el
          split at c9
          · rename_i w' hw'
            have ew : w' = w0 := eq_of_beq c9
            subst ew
            have hnames : ∀ p ∈ l', glB dC.sc p.1 = true ∧ dbgB p.1 = true ∧ p.1 ∈ cs := fun p hp => by
              have := List.all_eq_true.mp c11 p hp
              simp only [Bool.and_eq_true] at this
              exact ⟨this.1, this.2.1, by simpa using this.2.2⟩
            refine catK_of FC mC bC (C8.fnScope_by c1) c2 (visB_ok c3) (dbgB_ok c4) hl' hw' c10 (fun p hp => ?_) fun cn wd cls hlk hm => ?_
            · obtain ⟨z1, z2, z3⟩ := hnames p hp
              refine ⟨?_, (dbgB_ok z2).1, _, hgo _ z3⟩
              unfold glB at z1
              split at z1
              · assumption
              · cases z1
            · have hmem := PySem.mem_of_lookup hlk
              have hcs : cn ∈ cs := by simpa using List.all_eq_true.mp c12 _ hmem
              have e1 := (hgo cn hcs).symm.trans hm
              cases e1
              rw [chainG_ok fun p hp => hgo _ (hnames p hp).2.2]
              have := List.all_eq_true.mp cm3 _ hmem
              dsimp only at this
              split at this
              · rename_i v hv
                rw [hv, eq_of_beq this]
              · cases this
          · cases c9
        · cases c7
      · obtain ⟨FD, _, _⟩ := t.fns i d' hd'
        obtain ⟨oc, od, dV, kV, doc, pm, an, cdv, ct, osl, hfd, lk, hcd, _, _⟩ := FD.ex
        obtain ⟨cc, rfl⟩ := He.codeIn_ref hcd
        have hcode : (fd i).code = .ref cc := by rw [hfd]
        have hmm : d' ∈ lmT T lm := List.mem_filter.mpr ⟨List.mem_of_getElem? hd', hl⟩
        rw [hadd i d' (inT i d' hd')] at lk
        have hco : He.codeOf K (d'.df.name, none) = cc := He.codeOf_eq lk hcode
        have hin : ((He.cT K (d'.df.name, none)).2, d'.nm ++ ".<locals>." ++ "<lambda>") ∈ tlL T lm K := List.mem_map.mpr ⟨d', hmm, rfl⟩
        refine ⟨cc, (He.cT K (d'.df.name, none)).2, hcode, ?_, hin, fun p hp hpe => ?_⟩
        · have := hTB _ (tfm d' hmm)
          rw [show (He.cT K (d'.df.name, none)).1 = cc from hco] at this
          exact this
        · have := List.all_eq_true.mp (List.all_eq_true.mp cm4 p hp) _ hin
          rw [hpe] at this
          simpa using this
    have := all_ok (P := P) (w := w) (base := base) t hT W (tlL T lm K) lms n il d L2.CX0 hd (.inr hu)
    rw [hps] at this
    exact this.imp fun vs H Q E q => sp_lawL pure vs H Q E q
end
end Ev

end
section
set_option linter.all false
set_option maxHeartbeats 4000000
/-! Rules that run the evaluator on symbols. -/
namespace Ev
open PySem
theorem ite_b {α : Type} {t : Bool} {a b : α} : (match t with
    | true => a
    | false => b) = if t = true then a else b := by cases t <;> rfl
@[simp] theorem bind_ok' {α β : Type} (a : α) (r : Env) (f : α → Env → Res β) : (Res.ok a r).bind f = f a r := rfl
@[simp] theorem bind_stuck' {α β : Type} (f : α → Env → Res β) : (Res.stuck : Res α).bind f = .stuck := rfl
@[simp] theorem bind_ite {α β : Type} {c : Prop} [Decidable c] (a b : Res α) (f : α → Env → Res β) : (if c then a else b).bind f = if c then a.bind f else b.bind f := by split <;> rfl
@[simp] theorem of_some' {α : Type} (a : α) (r : Env) : Res.of (some a) r = .ok a r := rfl
@[simp] theorem of_none' {α : Type} (r : Env) : Res.of (none : Option α) r = .stuck := rfl
@[simp] theorem of_ite {α : Type} {c : Prop} [Decidable c] (a b : Option α) (r : Env) : Res.of (if c then a else b) r = if c then .of a r else .of b r := by split <;> rfl
def slD : Option Sl → Option D
  | some (.val d) => some d
  | some (.own d) => some d
  | some (.bor d) => some d
  | _ => none
@[simp] theorem slD_val (d : D) : slD (some (.val d)) = some d := rfl
@[simp] theorem slD_own (d : D) : slD (some (.own d)) = some d := rfl
@[simp] theorem slD_bor (d : D) : slD (some (.bor d)) = some d := rfl
@[simp] theorem deref_d (r : Env) (v : D) : deref r (.d v) = some v := rfl
@[simp] theorem deref_f (r : Env) (v : D) : deref r (.f v) = some v := rfl
@[simp] theorem deref_s (r : Env) (i : Nat) : deref r (.s i) = slD r[i]? := rfl
def truS : Option D → Env → Res Bool
  | some u, r => .of (truth u) r
  | none, _ => .stuck
def tru (x : TV) (r : Env) : Res Bool := truS (deref r x) r
@[simp] theorem tru_eq (x : TV) (r : Env) : tru x r = truS (deref r x) r := rfl
@[simp] theorem truS_some (u : D) (r : Env) : truS (some u) r = .of (truth u) r := rfl
@[simp] theorem truth_bool (b : Bool) : truth (.bool b) = some b := rfl
@[simp] theorem truth_int (i : Int) : truth (.int i) = some (i != 0) := rfl
@[simp] theorem truth_list (l : List D) : truth (.list l) = some (!l.isEmpty) := rfl
@[simp] theorem truth_tuple (l : List D) : truth (.tuple l) = some (!l.isEmpty) := rfl
def un1S (f : D → Option TV) : Option D → Env → Res TV
  | some u, r => .of (f u) r
  | none, _ => .stuck
def bi2S (f : D → D → Option TV) : Option D → Option D → Env → Res TV
  | some u, some v, r => .of (f u v) r
  | _, _, _ => .stuck
@[simp] theorem un1S_some (f : D → Option TV) (u : D) (r : Env) : un1S f (some u) r = .of (f u) r := rfl
@[simp] theorem bi2S_some (f : D → D → Option TV) (u v : D) (r : Env) : bi2S f (some u) (some v) r = .of (f u v) r := rfl
def andK (x : TV) (r : Env) (k : Env → Res TV) : Res TV := match x with
  | .d (.bool true) => k r
  | .d (.bool false) => .ok (.d (.bool false)) r
  | _ => .stuck
def orK (x : TV) (r : Env) (k : Env → Res TV) : Res TV := match x with
  | .d (.bool true) => .ok (.d (.bool true)) r
  | .d (.bool false) => k r
  | _ => .stuck
@[simp] theorem andK_b (b : Bool) (r : Env) (k : Env → Res TV) : andK (.d (.bool b)) r k = if b = true then k r else .ok (.d (.bool false)) r := by cases b <;> rfl
@[simp] theorem orK_b (b : Bool) (r : Env) (k : Env → Res TV) : orK (.d (.bool b)) r k = if b = true then .ok (.d (.bool true)) r else k r := by cases b <;> rfl
def negK (x : TV) (r : Env) : Res TV := match x with
  | .d (.int i) => .ok (.d (.int (-i))) r
  | _ => .stuck
@[simp] theorem negK_i (i : Int) (r : Env) : negK (.d (.int i)) r = .ok (.d (.int (-i))) r := rfl
def varK : Option Sl → Nat → Env → Res TV
  | some (.val d), _, r => .ok (.d d) r
  | some (.own _), i, r => .ok (.s i) r
  | some (.bor _), i, r => .ok (.s i) r
  | _, _, _ => .stuck
@[simp] theorem varK_val (d : D) (i : Nat) (r : Env) : varK (some (.val d)) i r = .ok (.d d) r := rfl
@[simp] theorem varK_own (d : D) (i : Nat) (r : Env) : varK (some (.own d)) i r = .ok (.s i) r := rfl
@[simp] theorem varK_bor (d : D) (i : Nat) (r : Env) : varK (some (.bor d)) i r = .ok (.s i) r := rfl
def solS : Option Sl → Nat → Env → Res D
  | some (.val d), _, r => .ok d r
  | some (.own d), i, r => .ok d (r.set i (.val d))
  | _, _, _ => .stuck
@[simp] theorem solS_val (d : D) (i : Nat) (r : Env) : solS (some (.val d)) i r = .ok d r := rfl
@[simp] theorem solS_own (d : D) (i : Nat) (r : Env) : solS (some (.own d)) i r = .ok d (r.set i (.val d)) := rfl
@[simp] theorem sol_d (r : Env) (v : D) : solidR r (.d v) = .ok v r := rfl
@[simp] theorem sol_f (r : Env) (v : D) : solidR r (.f v) = .ok v r := rfl
@[simp] theorem sol_s (r : Env) (i : Nat) : solidR r (.s i) = solS r[i]? i r := by
  unfold solidR solid
  dsimp only
  generalize r[i]? = o
  cases o with
  | none => rfl
  | some s => cases s <;> rfl
def muS : Option Sl → Option D
  | some (.own d) => some d
  | some (.bor d) => some d
  | _ => none
@[simp] theorem muS_own (d : D) : muS (some (.own d)) = some d := rfl
@[simp] theorem muS_bor (d : D) : muS (some (.bor d)) = some d := rfl
@[simp] theorem mutAt_eq (r : Env) (i : Nat) : mutAt r i = muS r[i]? := by
  unfold mutAt
  cases h : r[i]? with
  | none => rfl
  | some s => cases s <;> rfl
/-! operators -/
section
variable (i j : Int) (x y : Str) (k l : List D) (a b : D)
@[simp] theorem bop_add : bop .add (.int i) (.int j) = some (.d (.int (i + j))) := rfl
@[simp] theorem bop_sub : bop .sub (.int i) (.int j) = some (.d (.int (i - j))) := rfl
@[simp] theorem bop_mul : bop .mul (.int i) (.int j) = if mulOk i j = true then some (.d (.int (i * j))) else none := rfl
@[simp] theorem bop_div : bop .div (.int i) (.int j) = if 0 < j ∧ j < 1073741824 then some (.d (.int (i / j))) else none := rfl
@[simp] theorem bop_mod : bop .mod (.int i) (.int j) = if 0 < j then some (.d (.int (i % j))) else none := rfl
@[simp] theorem bop_tup : bop .add (.tuple k) (.tuple l) = if k.length + l.length ≤ SZ then some (.d (.tuple (k ++ l))) else none := rfl
@[simp] theorem bop_lst : bop .add (.list k) (.list l) = if k.length + l.length ≤ SZ then some (.f (.list (k ++ l))) else none := rfl
@[simp] theorem cop_lt : cop .lt (.int i) (.int j) = some (decide (i < j)) := rfl
@[simp] theorem cop_le : cop .le (.int i) (.int j) = some (decide (i ≤ j)) := rfl
@[simp] theorem cop_gt : cop .gt (.int i) (.int j) = some (decide (j < i)) := rfl
@[simp] theorem cop_ge : cop .ge (.int i) (.int j) = some (decide (j ≤ i)) := rfl
@[simp] theorem cop_eqi : cop .eq (.int i) (.int j) = some (decide (i = j)) := by
  show (if eqOk (.int i) (.int j) = true then some (PyData.eqv (.int i) (.int j)) else none) = _
  refine (if_pos rfl).trans ?_
  simp [PyData.eqv]
  try rfl
@[simp] theorem cop_eqs : cop .eq (.str x) (.str y) = some (decide (x = y)) := by
  show (if eqOk (.str x) (.str y) = true then some (PyData.eqv (.str x) (.str y)) else none) = _
  refine (if_pos rfl).trans ?_
  simp [PyData.eqv]
  try rfl
@[simp] theorem cop_nei : cop .ne (.int i) (.int j) = some (!decide (i = j)) := by
  show (if eqOk (.int i) (.int j) = true then some (!PyData.eqv (.int i) (.int j)) else none) = _
  refine (if_pos rfl).trans ?_
  simp [PyData.eqv]
  try rfl
@[simp] theorem cop_nes : cop .ne (.str x) (.str y) = some (!decide (x = y)) := by
  show (if eqOk (.str x) (.str y) = true then some (!PyData.eqv (.str x) (.str y)) else none) = _
  refine (if_pos rfl).trans ?_
  simp [PyData.eqv]
  try rfl
@[simp] theorem cop_is (u v : D) : cop .is u v = isOf u v := by cases u <;> cases v <;> rfl
@[simp] theorem cop_isNot (u v : D) : cop .isNot u v = (isOf u v).map (!·) := by cases u <;> cases v <;> rfl
@[simp] theorem cop_in (u v : D) : cop .inn u v = inOf u v := by cases u <;> cases v <;> rfl
@[simp] theorem is_bb (p q : Bool) : isOf (.bool p) (.bool q) = some (p == q) := rfl
end
/-! expressions -/
section
variable (call : Nat → List Sl → CR) (r : Env)
@[simp] theorem e_none : (ev call (.cst .none)).1 r = .ok (.d .none) r := rfl
@[simp] theorem e_bool (b : Bool) : (ev call (.cst (.bool b))).1 r = .ok (.d (.bool b)) r := rfl
@[simp] theorem e_int (i : Int) : (ev call (.cst (.int i))).1 r = .ok (.d (.int i)) r := rfl
@[simp] theorem e_str (x : Str) : (ev call (.cst (.str x))).1 r = .ok (.d (.str x)) r := rfl
@[simp] theorem e_var (i : Nat) : (ev call (.var i)).1 r = varK r[i]? i r := by
  show (match r[i]? with
    | some (.val d) => Res.ok (TV.d d) r
    | some (.own _) => .ok (.s i) r
    | some (.bor _) => .ok (.s i) r
    | _ => .stuck) = _
  cases h : r[i]? with
  | none => rfl
  | some s => cases s <;> rfl
@[simp] theorem e_glob (x : Str) (d : D) : (ev call (.glob x d)).1 r = .ok (.d d) r := rfl
@[simp] theorem e_bin (o : Bo) (a b : IE) : (ev call (.bin o a b)).1 r = ((ev call a).1 r).bind fun x r1 => ((ev call b).1 r1).bind fun y r2 => bi2S (bop o) (deref r2 x) (deref r2 y) r2 := by
  show Res.bind _ _ = _
  congr; funext x r1; congr; funext y r2
  cases deref r2 x <;> cases deref r2 y <;> rfl
@[simp] theorem e_neg (a : IE) : (ev call (.neg a)).1 r = ((ev call a).1 r).bind negK := rfl
@[simp] theorem e_cmp (o : Co) (a b : IE) : (ev call (.cmp o a b)).1 r = ((ev call a).1 r).bind fun x r1 => ((ev call b).1 r1).bind fun y r2 => bi2S (fun u v => (cop o u v).map fun t => .d (.bool t)) (deref r2 x) (deref r2 y) r2 := by
  show Res.bind _ _ = _
  congr; funext x r1; congr; funext y r2
  cases deref r2 x <;> cases deref r2 y <;> rfl
def chnS (o : Co) : Option D → Option D → Env → (Env → Res TV) → Res TV
  | some u, some v, r, k => match cop o u v with
    | some true => k r
    | some false => .ok (.d (.bool false)) r
    | none => .stuck
  | _, _, _, _ => .stuck
@[simp] theorem chnS_some (o : Co) (u v : D) (b : Bool) (k : Env → Res TV) (h : cop o u v = some b) : chnS o (some u) (some v) r k = if b = true then k r else .ok (.d (.bool false)) r := by
  show (match cop o u v with | some true => k r | some false => .ok (.d (.bool false)) r | none => .stuck) = _
  rw [h]
  cases b <;> rfl
@[simp] theorem e_chn (o p : Co) (a b c : IE) : (ev call (.chn o p a b c)).1 r = ((ev call a).1 r).bind fun x r1 => ((ev call b).1 r1).bind fun y r2 => chnS o (deref r2 x) (deref r2 y) r2 fun r2 => ((ev call c).1 r2).bind fun z r3 => bi2S (fun u v => (cop p u v).map fun t => .d (.bool t)) (deref r3 y) (deref r3 z) r3 := by
  show Res.bind _ _ = _
  congr; funext x r1; congr; funext y r2
  cases h1 : deref r2 x with
  | none => cases deref r2 y <;> rfl
  | some u =>
    cases h2 : deref r2 y with
    | none => rfl
    | some v =>
      show (match cop o u v with | some true => _ | some false => _ | none => _) = (match cop o u v with | some true => _ | some false => _ | none => _)
      cases cop o u v with
      | none => rfl
      | some b =>
        cases b with
        | false => rfl
        | true =>
          show Res.bind _ _ = Res.bind _ _
          congr; funext z r3
          cases deref r3 y <;> cases deref r3 z <;> rfl
@[simp] theorem e_not (a : IE) : (ev call (.not a)).1 r = (((ev call a).1 r).bind tru).bind fun t r1 => .ok (.d (.bool (!t))) r1 := by
  show Res.bind (Res.bind _ _) _ = _
  congr; funext x r1
  show (match deref r1 x with | some u => Res.of (truth u) r1 | none => .stuck) = truS (deref r1 x) r1
  cases deref r1 x <;> rfl
@[simp] theorem e_and (a b : IE) : (ev call (.and a b)).1 r = ((ev call a).1 r).bind fun x r1 => andK x r1 (ev call b).1 := rfl
@[simp] theorem e_or (a b : IE) : (ev call (.or a b)).1 r = ((ev call a).1 r).bind fun x r1 => orK x r1 (ev call b).1 := rfl
@[simp] theorem e_ife (c a b : IE) : (ev call (.ife c a b)).1 r = ((ev call c).2 r).bind fun t r1 => if t = true then (ev call a).1 r1 else (ev call b).1 r1 := by
  show Res.bind _ _ = _
  congr; funext t r1; cases t <;> rfl
@[simp] theorem e_tup (l : IA) : (ev call (.tup l)).1 r = (evA call l r).bind fun xs r1 => if xs.length ≤ SZ then .ok (.d (.tuple xs)) r1 else .stuck := rfl
@[simp] theorem e_lst (l : IA) : (ev call (.lst l)).1 r = (evA call l r).bind fun xs r1 => if xs.length ≤ SZ then .ok (.f (.list xs)) r1 else .stuck := rfl
@[simp] theorem e_idx (a b : IE) : (ev call (.idx a b)).1 r = ((ev call a).1 r).bind fun x r1 => ((ev call b).1 r1).bind fun y r2 => bi2S (fun u v => (idx u v).map .d) (deref r2 x) (deref r2 y) r2 := by
  show Res.bind _ _ = _
  congr; funext x r1; congr; funext y r2
  cases deref r2 x <;> cases deref r2 y <;> rfl
@[simp] theorem e_isi (a : IE) (t : Ty) : (ev call (.isi a t)).1 r = ((ev call a).1 r).bind fun x r1 => un1S (fun u => if notDict u = true then some (.d (.bool (isTy t u))) else none) (deref r1 x) r1 := by
  show Res.bind _ _ = _
  congr; funext x r1
  cases deref r1 x with
  | none => rfl
  | some u =>
    show (if notDict u = true then Res.ok (TV.d (.bool (isTy t u))) r1 else .stuck) = Res.of (if notDict u = true then _ else _) r1
    split <;> rfl
@[simp] theorem e_bl1 (b : B1) (a : IE) : (ev call (.bl1 b a)).1 r = ((ev call a).1 r).bind fun x r1 => un1S (b1 b) (deref r1 x) r1 := by
  show Res.bind _ _ = _
  congr; funext x r1
  cases deref r1 x <;> rfl
@[simp] theorem e_un (u : U1) (a : IE) : (ev call (.un u a)).1 r = ((ev call a).1 r).bind fun x r1 => un1S (u1 u) (deref r1 x) r1 := by
  show Res.bind _ _ = _
  congr; funext x r1
  cases deref r1 x <;> rfl
@[simp] theorem e_bl2 (b : B2) (a c : IE) : (ev call (.bl2 b a c)).1 r = ((ev call a).1 r).bind fun x r1 => ((ev call c).1 r1).bind fun y r2 => bi2S (fun u v => (b2 b u v).map .d) (deref r2 x) (deref r2 y) r2 := by
  show Res.bind _ _ = _
  congr; funext x r1; congr; funext y r2
  cases deref r2 x <;> cases deref r2 y <;> rfl
/-- behind a call -/
def callK : CR → List Nat → Env → Res TV
  | .ok fr v outs, L, r => match outsE L outs r with
    | some r' => .ok (if fr then .f v else .d v) r'
    | none => .stuck
  | .exc c d, L, r => if L = [] then .exc c d r else .stuck
  | .stuck, _, _ => .stuck
@[simp] theorem callK_v (v : D) : callK (.ok false v []) [] r = .ok (.d v) r := rfl
@[simp] theorem callK_f (v : D) : callK (.ok true v []) [] r = .ok (.f v) r := rfl
@[simp] theorem callK_v1 (v d : D) (i : Nat) : callK (.ok false v [d]) [i] r = .ok (.d v) (setAt r i d) := rfl
@[simp] theorem callK_f1 (v d : D) (i : Nat) : callK (.ok true v [d]) [i] r = .ok (.f v) (setAt r i d) := rfl
@[simp] theorem callK_v2 (v d e : D) (i j : Nat) : callK (.ok false v [d, e]) [i, j] r = .ok (.d v) (setAt (setAt r i d) j e) := rfl
def argK (o : Option (List Sl)) (L : List Nat) (f : Nat) (r : Env) : Res TV := match o with
  | some ss => if L.Nodup then callK (call f ss) L r else .stuck
  | none => .stuck
@[simp] theorem argK_some (ss : List Sl) (L : List Nat) (f : Nat) : argK call (some ss) L f r = if L.Nodup then callK (call f ss) L r else .stuck := rfl
theorem doCall_eq (f : Nat) (as : List Ar) : doCall call f as r = argK call (argsS r as) (lends as) f r := by
  unfold doCall argK
  cases argsS r as with
  | none => rfl
  | some ss =>
    show (if (lends as).Nodup then _ else _) = (if (lends as).Nodup then _ else _)
    split
    · cases call f ss <;> rfl
    · rfl
@[simp] theorem e_call (f : Nat) (x : Str) (l : IA) : (ev call (.call f x l)).1 r = (evR call l r).bind fun as r1 => argK call (argsS r1 as) (lends as) f r1 := by
  show Res.bind _ _ = _
  congr; funext as r1
  exact doCall_eq call r1 f as
@[simp] theorem argsS_nil : argsS r [] = some [] := rfl
@[simp] theorem argsS_v (d : D) (l : List Ar) : argsS r (.v d :: l) = (argsS r l).map (.val d :: ·) := rfl
@[simp] theorem argsS_l (i : Nat) (l : List Ar) : argsS r (.l i :: l) = ((mutAt r i).map Sl.bor).bind fun s => (argsS r l).map (s :: ·) := rfl
@[simp] theorem lends_nil : lends [] = [] := rfl
@[simp] theorem lends_v (d : D) (l : List Ar) : lends (.v d :: l) = lends l := rfl
@[simp] theorem lends_l (i : Nat) (l : List Ar) : lends (.l i :: l) = i :: lends l := rfl
@[simp] theorem a_nil : evA call .nil r = .ok [] r := rfl
@[simp] theorem a_cons (a : IE) (l : IA) : evA call (.cons a l) r = ((ev call a).1 r).bind fun x r1 => (solidR r1 x).bind fun v r2 => (evA call l r2).bind fun vs r3 => .ok (v :: vs) r3 := rfl
@[simp] theorem r_nil : evR call .nil r = .ok [] r := rfl
@[simp] theorem r_cons (a : IE) (l : IA) : evR call (.cons a l) r = ((ev call a).1 r).bind fun x r1 => (solidR r1 x).bind fun v r2 => (evR call l r2).bind fun vs r3 => .ok (.v v :: vs) r3 := rfl
def lendK : Option D → Env → (Env → Res (List Ar)) → Res (List Ar)
  | some _, r, k => k r
  | none, _, _ => .stuck
@[simp] theorem lendK_some (d : D) (k : Env → Res (List Ar)) : lendK (some d) r k = k r := rfl
@[simp] theorem r_lend (i : Nat) (l : IA) : evR call (.lend i l) r = lendK (mutAt r i) r fun r => (evR call l r).bind fun vs r1 => .ok (.l i :: vs) r1 := by
  show (match mutAt r i with | some _ => _ | none => _) = _
  cases mutAt r i <;> rfl
@[simp] theorem o_no : evO call .no r = .ok none r := rfl
def derK : Option D → Env → Res (Option D)
  | some u, r => .ok (some u) r
  | none, _ => .stuck
@[simp] theorem derK_some (u : D) : derK (some u) r = .ok (some u) r := rfl
@[simp] theorem o_yes (a : IE) : evO call (.yes a) r = ((ev call a).1 r).bind fun x r1 => derK (deref r1 x) r1 := by
  show Res.bind _ _ = _
  congr; funext x r1
  cases deref r1 x <;> rfl
@[simp] theorem t_no : evT call .no r = .ok true r := rfl
@[simp] theorem t_yes (a : IE) : evT call (.yes a) r = (ev call a).2 r := rfl
@[simp] theorem i_val (a : IE) : evI call (.val a) r = ((ev call a).1 r).bind fun x r1 => (solidR r1 x).bind fun v r2 => .of (itemsOf v) r2 := rfl
def slS : Option D → Option (Option Int) → Option (Option Int) → Env → Res TV
  | some u, some l, some h, r => .of (slice l h u) r
  | _, _, _, _ => .stuck
@[simp] theorem slS_some (u : D) (l h : Option Int) : slS (some u) (some l) (some h) r = .of (slice l h u) r := rfl
@[simp] theorem e_slc (a : IE) (lo hi : IO) : (ev call (.slc a lo hi)).1 r = ((ev call a).1 r).bind fun x r1 => (evO call lo r1).bind fun l r2 => (evO call hi r2).bind fun h r3 => slS (deref r3 x) (optI l) (optI h) r3 := by
  show Res.bind _ _ = _
  congr; funext x r1; congr; funext l r2; congr; funext h r3
  generalize deref r3 x = o1
  generalize optI l = o2
  generalize optI h = o3
  cases o1 <;> cases o2 <;> cases o3 <;> rfl
@[simp] theorem opt_none : optI none = some none := rfl
@[simp] theorem opt_int (i : Int) : optI (some (.int i)) = some (some i) := rfl
@[simp] theorem slice_list (lo hi : Option Int) (xs : List D) : slice lo hi (.list xs) = some (.f (.list (cut xs lo hi))) := rfl
@[simp] theorem slice_tup (lo hi : Option Int) (xs : List D) : slice lo hi (.tuple xs) = some (.d (.tuple (cut xs lo hi))) := rfl
theorem cut_take {α : Type} (xs : List α) (n : Nat) (h : n ≤ xs.length) : cut xs none (some (n : Int)) = xs.take n := by
  have h1 : ¬ (n : Int) < 0 := by omega
  have h2 : min n xs.length = n := by omega
  simp [cut, sIx, h1, h2]
@[simp] theorem e_dsp (ks : List Const) (l : IA) : (ev call (.dsp ks l)).1 r = (evA call l r).bind fun vs r1 => .of ((dispD ks vs).map fun ps => .f (.dict ps)) r1 := by
  show Res.bind _ _ = _
  congr; funext vs r1
  cases dispD ks vs <;> rfl
def dicS : Option D → Env → (Env → Res TV) → Res TV
  | some u, r, k => if isDict u = true then k r else .stuck
  | none, _, _ => .stuck
@[simp] theorem dicS_some (u : D) (k : Env → Res TV) : dicS (some u) r k = if isDict u = true then k r else .stuck := rfl
theorem dic_eq (x : TV) (r : Env) (k : Env → Res TV) : ((dictR r x).bind fun _ r1 => k r1) = dicS (deref r x) r k := by
  unfold dictR
  cases deref r x with
  | none => rfl
  | some u =>
    show Res.bind (if isDict u = true then _ else _) _ = if isDict u = true then _ else _
    split <;> rfl
@[simp] theorem e_mg2 (o k d : IE) : (ev call (.mg2 o k d)).1 r = ((ev call o).1 r).bind fun x r1 => dicS (deref r1 x) r1 fun r1 => ((ev call k).1 r1).bind fun y r2 => ((ev call d).1 r2).bind fun z r3 => (solidR r3 z).bind fun w r4 =>
      bi2S (fun u v => (getD1 u v).map fun t => .d (t.getD w)) (deref r4 x) (deref r4 y) r4 := by
  show Res.bind _ _ = _
  congr; funext x r1
  rw [← dic_eq]
  congr; funext _ r1; congr; funext y r2; congr; funext z r3; congr; funext w r4
  cases deref r4 x <;> cases deref r4 y <;> rfl
def rgK : Option D → Env → Res (List D)
  | some (.int j), r => if small62 j = true then .ok (rng 0 j.toNat) r else .stuck
  | _, _ => .stuck
@[simp] theorem rgK_i (j : Int) : rgK (some (.int j)) r = if small62 j = true then .ok (rng 0 j.toNat) r else .stuck := rfl
@[simp] theorem i_rg1 (a : IE) : evI call (.rg1 a) r = ((ev call a).1 r).bind fun x r1 => rgK (deref r1 x) r1 := by
  show Res.bind _ _ = _
  congr; funext x r1
  generalize deref r1 x = o
  cases o with
  | none => rfl
  | some u => cases u <;> rfl
def rgK2 : Option D → Option D → Env → Res (List D)
  | some (.int i), some (.int j), r => if (small62 i && small62 j) = true then .ok (rng i (j - i).toNat) r else .stuck
  | _, _, _ => .stuck
@[simp] theorem rgK2_i (i j : Int) : rgK2 (some (.int i)) (some (.int j)) r = if (small62 i && small62 j) = true then .ok (rng i (j - i).toNat) r else .stuck := rfl
@[simp] theorem i_rg2 (a b : IE) : evI call (.rg2 a b) r = ((ev call a).1 r).bind fun x r1 => ((ev call b).1 r1).bind fun y r2 => rgK2 (deref r2 x) (deref r2 y) r2 := by
  show Res.bind _ _ = _
  congr; funext x r1; congr; funext y r2
  generalize deref r2 x = o
  generalize deref r2 y = o2
  cases o with
  | none => rfl
  | some u =>
    cases o2 with
    | none => cases u <;> rfl
    | some v => cases u <;> cases v <;> rfl
def enK : Option (List D) → Env → Res (List D)
  | some xs, r => .ok (enumD 0 xs) r
  | none, _ => .stuck
@[simp] theorem enK_some (xs : List D) : enK (some xs) r = .ok (enumD 0 xs) r := rfl
@[simp] theorem i_enm (a : IE) : evI call (.enm a) r = ((ev call a).1 r).bind fun x r1 => (solidR r1 x).bind fun v r2 => enK (listOf v) r2 := by
  show Res.bind _ _ = _
  congr; funext x r1; congr; funext v r2
  cases v <;> rfl
def zpK : Option (List D) → Option (List D) → Env → Res (List D)
  | some xs, some ys, r => .ok (zipD xs ys) r
  | _, _, _ => .stuck
@[simp] theorem zpK_some (xs ys : List D) : zpK (some xs) (some ys) r = .ok (zipD xs ys) r := rfl
@[simp] theorem i_zip (a b : IE) : evI call (.zip a b) r = ((ev call a).1 r).bind fun x r1 => (solidR r1 x).bind fun v r2 => ((ev call b).1 r2).bind fun y r3 => (solidR r3 y).bind fun w r4 => zpK (listOf v) (listOf w) r4 := by
  show Res.bind _ _ = _
  congr; funext x r1; congr; funext v r2; congr; funext y r3; congr; funext w r4
  cases v <;> cases w <;> rfl
def zpK3 : Option (List D) → Option (List D) → Option (List D) → Env → Res (List D)
  | some xs, some ys, some zs, r => .ok (zip3D xs ys zs) r
  | _, _, _, _ => .stuck
@[simp] theorem zpK3_some (xs ys zs : List D) : zpK3 (some xs) (some ys) (some zs) r = .ok (zip3D xs ys zs) r := rfl
@[simp] theorem i_zp3 (a b c : IE) : evI call (.zp3 a b c) r = ((ev call a).1 r).bind fun x r1 => (solidR r1 x).bind fun v r2 => ((ev call b).1 r2).bind fun y r3 => (solidR r3 y).bind fun w r4 => ((ev call c).1 r4).bind fun z r5 => (solidR r5 z).bind fun u r6 => zpK3 (listOf v) (listOf w) (listOf u) r6 := by
  show Res.bind _ _ = _
  congr; funext x r1; congr; funext v r2; congr; funext y r3; congr; funext w r4; congr; funext z r5; congr; funext u r6
  generalize listOf v = o1
  generalize listOf w = o2
  generalize listOf u = o3
  cases o1 <;> cases o2 <;> cases o3 <;> rfl
def lstS : Option D → Env → (Env → Res TV) → Res TV
  | some (.list _), r, k => k r
  | _, _, _ => .stuck
@[simp] theorem lstS_l (xs : List D) (k : Env → Res TV) : lstS (some (.list xs)) r k = k r := rfl
theorem lst_eq (x : TV) (r : Env) (k : Env → Res TV) : ((lstR r x).bind fun _ r1 => k r1) = lstS (deref r x) r k := by
  unfold lstR
  generalize deref r x = o
  cases o with
  | none => rfl
  | some u => cases u <;> rfl
@[simp] theorem e_ixo (a k : IE) : (ev call (.ixo a k)).1 r = ((ev call a).1 r).bind fun x r1 => lstS (deref r1 x) r1 fun r1 => ((ev call k).1 r1).bind fun y r2 => bi2S (fun u v => (ixD u v).map fun j : Nat => .d (.int j)) (deref r2 x) (deref r2 y) r2 := by
  show Res.bind _ _ = _
  congr; funext x r1
  rw [← lst_eq]
  congr; funext _ r1; congr; funext y r2
  cases deref r2 x <;> cases deref r2 y <;> rfl
/-! tests -/
theorem t_eq {f : Env → Res TV} : (tst f).2 r = (f r).bind tru := by
  show Res.bind _ _ = _
  congr; funext x r1
  show (match deref r1 x with | some u => Res.of (truth u) r1 | none => .stuck) = truS (deref r1 x) r1
  cases deref r1 x <;> rfl
@[simp] theorem c_cst (d : Const) : (ev call (.cst d)).2 r = ((ev call (.cst d)).1 r).bind tru := t_eq r
@[simp] theorem c_var (i : Nat) : (ev call (.var i)).2 r = ((ev call (.var i)).1 r).bind tru := t_eq r
@[simp] theorem c_cmp (o : Co) (a b : IE) : (ev call (.cmp o a b)).2 r = ((ev call (.cmp o a b)).1 r).bind tru := t_eq r
@[simp] theorem c_chn (o p : Co) (a b c : IE) : (ev call (.chn o p a b c)).2 r = ((ev call (.chn o p a b c)).1 r).bind tru := t_eq r
@[simp] theorem c_isi (a : IE) (t : Ty) : (ev call (.isi a t)).2 r = ((ev call (.isi a t)).1 r).bind tru := t_eq r
@[simp] theorem c_call (f : Nat) (x : Str) (l : IA) : (ev call (.call f x l)).2 r = ((ev call (.call f x l)).1 r).bind tru := t_eq r
@[simp] theorem c_bl1 (b : B1) (a : IE) : (ev call (.bl1 b a)).2 r = ((ev call (.bl1 b a)).1 r).bind tru := t_eq r
@[simp] theorem c_not (a : IE) : (ev call (.not a)).2 r = ((ev call a).2 r).bind fun t r1 => .ok (!t) r1 := rfl
@[simp] theorem c_and (a b : IE) : (ev call (.and a b)).2 r = ((ev call a).2 r).bind fun t r1 => if t = true then (ev call b).2 r1 else .ok false r1 := by
  show Res.bind _ _ = _
  congr; funext t r1; cases t <;> rfl
@[simp] theorem c_or (a b : IE) : (ev call (.or a b)).2 r = ((ev call a).2 r).bind fun t r1 => if t = true then .ok true r1 else (ev call b).2 r1 := by
  show Res.bind _ _ = _
  congr; funext t r1; cases t <;> rfl
@[simp] theorem c_ife (c a b : IE) : (ev call (.ife c a b)).2 r = ((ev call c).2 r).bind fun t r1 => if t = true then (ev call a).2 r1 else (ev call b).2 r1 := by
  show Res.bind _ _ = _
  congr; funext t r1; cases t <;> rfl
/-! statements -/
variable (W : Nat)
def seqK (m : Res Fl) (k : Env → Res Fl) : Res Fl := match m with
  | .ok .nx r1 => k r1
  | o => o
@[simp] theorem seqK_nx (k : Env → Res Fl) : seqK (.ok .nx r) k = k r := rfl
@[simp] theorem seqK_brk (k : Env → Res Fl) : seqK (.ok .brk r) k = .ok .brk r := rfl
@[simp] theorem seqK_cnt (k : Env → Res Fl) : seqK (.ok .cnt r) k = .ok .cnt r := rfl
@[simp] theorem seqK_ret (b : Bool) (v : D) (k : Env → Res Fl) : seqK (.ok (.ret b v) r) k = .ok (.ret b v) r := rfl
@[simp] theorem seqK_exc (c : Str) (v : D) (k : Env → Res Fl) : seqK (.exc c v r) k = .exc c v r := rfl
@[simp] theorem seqK_stuck (k : Env → Res Fl) : seqK .stuck k = .stuck := rfl
@[simp] theorem seqK_ite {c : Prop} [Decidable c] (a b : Res Fl) (k : Env → Res Fl) : seqK (if c then a else b) k = if c then seqK a k else seqK b k := by split <;> rfl
@[simp] theorem b_nil : evB call W .nil r = .ok .nx r := rfl
@[simp] theorem b_cons (a : IS) (l : IB) : evB call W (.cons a l) r = seqK (evS call W a r) (evB call W l) := rfl
def retK : TV → Env → Res Fl
  | .d v, r => .ok (.ret false v) r
  | .f v, r => .ok (.ret true v) r
  | .s i, r => match r[i]? with
    | some (.own d) => .ok (.ret true d) r
    | _ => .stuck
@[simp] theorem retK_d (v : D) : retK (.d v) r = .ok (.ret false v) r := rfl
@[simp] theorem retK_f (v : D) : retK (.f v) r = .ok (.ret true v) r := rfl
@[simp] theorem s_ret (e : IE) : evS call W (.ret e) r = ((ev call e).1 r).bind retK := by
  show Res.bind _ _ = _
  congr; funext x r1
  cases x <;> rfl
@[simp] theorem s_retN : evS call W .retN r = .ok (.ret false .none) r := rfl
@[simp] theorem s_asg (t : IT) (e : IE) : evS call W (.asg t e) r = ((ev call e).1 r).bind fun x r1 => (asn t x r1).bind fun _ r2 => .ok .nx r2 := rfl
@[simp] theorem s_ex (e : IE) : evS call W (.ex e) r = ((ev call e).1 r).bind fun _ r1 => .ok .nx r1 := rfl
@[simp] theorem s_if (c : IE) (a b : IB) : evS call W (.ifs c a b) r = ((ev call c).2 r).bind fun t r1 => if t = true then evB call W a r1 else evB call W b r1 := by
  show Res.bind _ _ = _
  congr; funext t r1; cases t <;> rfl
@[simp] theorem s_for (t : IT) (it : II) (a : IB) : evS call W (.fr t it a) r = (evI call it r).bind fun xs r1 => forL (fun x r2 => (asn t (.d x) r2).bind fun _ r3 => evB call W a r3) xs r1 := rfl
@[simp] theorem s_whl (c : IE) (a : IB) : evS call W (.whl c a) r = whileN (fun r => (ev call c).2 r) (fun r => evB call W a r) W r := rfl
@[simp] theorem s_pas : evS call W .pas r = .ok .nx r := rfl
@[simp] theorem s_rse (c : Str) : evS call W (.rse c) r = .exc c .none r := rfl
@[simp] theorem nx_ok {α : Type} (a : α) (r : Env) : nx (.ok a r) = .ok a r := rfl
@[simp] theorem nx_ite {α : Type} {c : Prop} [Decidable c] (a b : Res α) : nx (if c then a else b) = if c then nx a else nx b := by split <;> rfl
@[simp] theorem s_qt (a : IS) : evS call W (.qt a) r = nx (evS call W a r) := rfl
@[simp] theorem s_ifx (c : IE) (a b : IB) : evS call W (.ifx c a b) r = (nx ((ev call c).2 r)).bind fun t r1 => if t = true then evB call W a r1 else evB call W b r1 := by
  show Res.bind _ _ = _
  congr; funext t r1; cases t <;> rfl
@[simp] theorem s_rai (c : Str) : evS call W (.rai c) r = .exc c .none r := rfl
@[simp] theorem s_exx (f : Nat) (y : Str) (l : IA) : evS call W (.exx f y l) r = (nx (evR call l r)).bind fun as r1 => (doCall call f as r1).bind fun _ r2 => .ok .nx r2 := rfl
def retX : TV → Env → Res Fl
  | .d v, r => .ok (.ret false v) r
  | .f v, r => .ok (.ret true v) r
  | .s _, _ => .stuck
@[simp] theorem retX_d (v : D) : retX (.d v) r = .ok (.ret false v) r := rfl
@[simp] theorem retX_f (v : D) : retX (.f v) r = .ok (.ret true v) r := rfl
@[simp] theorem s_rtx (f : Nat) (y : Str) (l : IA) : evS call W (.rtx f y l) r = (nx (evR call l r)).bind fun as r1 => (doCall call f as r1).bind retX := by
  show Res.bind _ _ = _
  congr; funext as r1; congr; funext x r2; cases x <;> rfl
@[simp] theorem e_lamc (k : Cat) (g : Str) (f : Nat) (y : Str) (l : IA) : (ev call (.lamc k g f y l)).1 r = (nx (evR call l r)).bind fun as r1 => (catR k ((doCall call f as r1).bind fun x r2 => solidR r2 x)).bind fun v r2 => .ok (.d v) r2 := rfl
@[simp] theorem s_cnt : evS call W .cnt r = .ok .cnt r := rfl
def stoK : Option Sl → Sl → Nat → Env → Res Unit
  | some (.bor _), _, _, _ => .stuck
  | some .lck, _, _, _ => .stuck
  | none, _, _, _ => .stuck
  | some _, s, i, r => .ok () (r.set i s)
@[simp] theorem stoK_un (s : Sl) (i : Nat) : stoK (some .un) s i r = .ok () (r.set i s) := rfl
@[simp] theorem stoK_val (d : D) (s : Sl) (i : Nat) : stoK (some (.val d)) s i r = .ok () (r.set i s) := rfl
@[simp] theorem stoK_own (d : D) (s : Sl) (i : Nat) : stoK (some (.own d)) s i r = .ok () (r.set i s) := rfl
@[simp] theorem asn_d (i : Nat) (d : D) : asn (.n i false) (.d d) r = stoK r[i]? (.val d) i r := by
  show asn1 i false (.d d) r = _
  unfold asn1
  cases h : r[i]? with
  | none => rfl
  | some s => cases s <;> rfl
@[simp] theorem asn_f (i : Nat) (d : D) : asn (.n i false) (.f d) r = stoK r[i]? (.val d) i r := by
  show asn1 i false (.f d) r = _
  unfold asn1
  cases h : r[i]? with
  | none => rfl
  | some s => cases s <;> rfl
@[simp] theorem asn_fo (i : Nat) (d : D) : asn (.n i true) (.f d) r = stoK r[i]? (.own d) i r := by
  show asn1 i true (.f d) r = _
  unfold asn1
  cases h : r[i]? with
  | none => rfl
  | some s => cases s <;> rfl
@[simp] theorem asn_t (l : List IT) (xs : List D) : asn (.t l) (.d (.tuple xs)) r = asnL l xs r := rfl
@[simp] theorem asn_tl (l : List IT) (xs : List D) : asn (.t l) (.f (.list xs)) r = asnL l xs r := rfl
@[simp] theorem asnL_nil : asnL [] [] r = .ok () r := rfl
@[simp] theorem asnL_cons (t : IT) (ts : List IT) (x : D) (xs : List D) : asnL (t :: ts) (x :: xs) r = (asn t (.d x) r).bind fun _ r' => asnL ts xs r' := rfl
@[simp] theorem asnP_nil : asnP [] [] r = .ok () r := rfl
@[simp] theorem asnP_cons (t : IT) (ts : List IT) (x : TV) (xs : List TV) : asnP (t :: ts) (x :: xs) r = (asn t x r).bind fun _ r' => asnP ts xs r' := rfl
@[simp] theorem s_asp (ts : List IT) (l : IA) : evS call W (.asp ts l) r = (evF call l r).bind fun xs r1 => if xs.length ≤ SZ then (asnP ts xs r1).bind fun _ r2 => .ok .nx r2 else .stuck := rfl
def fK (x : TV) (r : Env) (k : TV → Env → Res (List TV)) : Res (List TV) := match x with
  | .f v => k (.f v) r
  | x => (solidR r x).bind fun v r2 => k (.d v) r2
@[simp] theorem fK_f (v : D) (k : TV → Env → Res (List TV)) : fK (.f v) r k = k (.f v) r := rfl
@[simp] theorem fK_d (v : D) (k : TV → Env → Res (List TV)) : fK (.d v) r k = k (.d v) r := rfl
@[simp] theorem fK_s (i : Nat) (k : TV → Env → Res (List TV)) : fK (.s i) r k = (solS r[i]? i r).bind fun v r2 => k (.d v) r2 := by
  show (solidR r (.s i)).bind _ = _
  rw [sol_s]
@[simp] theorem f_nil : evF call .nil r = .ok [] r := rfl
@[simp] theorem f_cons (a : IE) (l : IA) : evF call (.cons a l) r = ((ev call a).1 r).bind fun x r1 => fK x r1 fun y r2 => (evF call l r2).bind fun vs r3 => .ok (y :: vs) r3 := by
  show Res.bind _ _ = _
  congr
def lendF : Option D → Env → (Env → Res Fl) → Res Fl
  | some _, r, k => k r
  | none, _, _ => .stuck
@[simp] theorem lendF_some (d : D) (k : Env → Res Fl) : lendF (some d) r k = k r := rfl
def setS : Option Sl → Env → Nat → D → Env
  | some (.own _), r, i, d => r.set i (.own d)
  | some (.bor _), r, i, d => r.set i (.bor d)
  | _, r, _, _ => r
@[simp] theorem setS_own (e d : D) (i : Nat) : setS (some (.own e)) r i d = r.set i (.own d) := rfl
@[simp] theorem setS_bor (e d : D) (i : Nat) : setS (some (.bor e)) r i d = r.set i (.bor d) := rfl
@[simp] theorem setAt_eq (i : Nat) (d : D) : setAt r i d = setS r[i]? r i d := by
  unfold setAt
  generalize r[i]? = o
  cases o with
  | none => rfl
  | some s => cases s <;> rfl
def ixK (o : Option Nat) (k : Nat → Res Fl) : Res Fl := match o with
  | some m => k m
  | none => .stuck
@[simp] theorem ixK_some (m : Nat) (k : Nat → Res Fl) : ixK (some m) k = k m := rfl
def setK : Option D → Option D → Nat → D → Env → Res Fl
  | some (.list xs), some (.int j), i, v, r => ixK (Ev.ixN xs.length j) fun m => .ok .nx (setAt r i (.list (xs.set m v)))
  | _, _, _, _, _ => .stuck
@[simp] theorem setK_l (xs : List D) (j : Int) (i : Nat) (v : D) : setK (some (.list xs)) (some (.int j)) i v r = ixK (Ev.ixN xs.length j) fun m => .ok .nx (setAt r i (.list (xs.set m v))) := rfl
@[simp] theorem s_sto (i : Nat) (k e : IE) : evS call W (.sto i k e) r = ((ev call e).1 r).bind fun x r1 => (solidR r1 x).bind fun v r2 => lendF (mutAt r2 i) r2 fun r2 => ((ev call k).1 r2).bind fun y r3 => setK (mutAt r3 i) (deref r3 y) i v r3 := by
  show Res.bind _ _ = _
  congr; funext x r1; congr; funext v r2
  generalize mutAt r2 i = o
  cases o with
  | none => rfl
  | some d =>
    show Res.bind _ _ = Res.bind _ _
    congr; funext y r3
    generalize mutAt r3 i = o2
    generalize deref r3 y = o3
    cases o2 with
    | none => rfl
    | some d2 =>
      cases o3 with
      | none => cases d2 <;> rfl
      | some d3 =>
        cases d2 <;> first | rfl | skip
        cases d3 <;> first | rfl | skip
        all_goals (unfold setK ixK; split <;> rfl)
/-! a def's run -/
@[simp] theorem outs_nil (r : Env) : outsOf [] r = some [] := rfl
@[simp] theorem outs_v (d : D) (l : List Sl) (s : Sl) (r : Env) : outsOf (.val d :: l) (s :: r) = outsOf l r := rfl
@[simp] theorem outs_b (d e : D) (l : List Sl) (r : Env) : outsOf (.bor d :: l) (.bor e :: r) = (outsOf l r).map (e :: ·) := rfl
def endK (as : List Sl) : Res Fl → CR
  | .ok .nx r => endCall as false .none r
  | .ok (.ret b v) r => endCall as b v r
  | .ok _ _ => .stuck
  | .exc c d _ => .exc c d
  | .stuck => .stuck
@[simp] theorem endK_nx (as : List Sl) : endK as (.ok .nx r) = endCall as false .none r := rfl
@[simp] theorem endK_ret (as : List Sl) (b : Bool) (v : D) : endK as (.ok (.ret b v) r) = endCall as b v r := rfl
@[simp] theorem endK_exc (as : List Sl) (c : Str) (v : D) : endK as (.exc c v r) = .exc c v := rfl
@[simp] theorem endK_stuck (as : List Sl) : endK as .stuck = .stuck := rfl
@[simp] theorem endK_ite {c : Prop} [Decidable c] (as : List Sl) (a b : Res Fl) : endK as (if c then a else b) = if c then endK as a else endK as b := by split <;> rfl
theorem runDef_eq (df : Df) (as : List Sl) (h : as.length = df.np) : runDef call W df as = endK as (evB call W df.body (as ++ List.replicate (df.names.length - df.np) .un)) := by
  unfold runDef
  rw [if_pos h]
  cases evB call W df.body (as ++ List.replicate (df.names.length - df.np) .un) with
  | ok f r => cases f <;> rfl
  | exc c d r => rfl
  | stuck => rfl
def endS : Option (List D) → Bool → D → CR
  | some os, b, v => .ok b v os
  | none, _, _ => .stuck
@[simp] theorem endS_some (os : List D) (b : Bool) (v : D) : endS (some os) b v = .ok b v os := rfl
@[simp] theorem endCall_eq (as : List Sl) (b : Bool) (v : D) : endCall as b v r = endS (outsOf as r) b v := by
  unfold endCall
  cases outsOf as r <;> rfl
end
/-! comprehensions whose elements leave the frame as it is -/
theorem compL_flat {α : Type} {f : D → Env → Res (List D)} {vs : List Nat} {en : α → D} {g : α → List D} {w : Env} : ∀ (xs : List α) (r : Env), wipeE vs r = w → (∀ x ∈ xs, ∀ r, wipeE vs r = w → ∃ r', f (en x) r = .ok (g x) r' ∧ wipeE vs r' = w) → ∃ r', compL f (xs.map en) r = .ok (xs.flatMap g) r' ∧ wipeE vs r' = w
  | [], r, h, _ => ⟨r, rfl, h⟩
  | x :: xs, r, h, hf => by
    obtain ⟨r1, e1, h1⟩ := hf x List.mem_cons_self r h
    obtain ⟨r2, e2, h2⟩ := compL_flat xs r1 h1 fun y hy => hf y (List.mem_cons_of_mem _ hy)
    refine ⟨r2, ?_, h2⟩
    rw [List.map_cons]
    unfold compL
    rw [e1]
    dsimp only
    rw [e2]
    rfl
theorem back_wipe {vs : List Nat} {r r' : Env} (h : wipeE vs r' = wipeE vs r) : backE r vs r' = r := by
  have hl : r'.length = r.length := by
    have := congrArg List.length h
    rwa [wipeE_len, wipeE_len] at this
  apply List.ext_getElem?
  intro j
  rw [backE_get r r' hl.symm]
  by_cases hj : j ∈ vs
  · rw [if_pos hj]
  · rw [if_neg hj]
    have := congrArg (fun q : Env => q[j]?) h
    rwa [wipeE_get, wipeE_get, if_neg hj, if_neg hj] at this
/-- the turn of a comprehension -/
def item (call : Nat → List Sl → CR) (elt : IE) (t : IT) (c : IO) (vs : List Nat) (x : D) (w : Env) : Res (List D) := (asn t (.d x) w).bind fun _ r3 =>
          (evT call c r3).bind fun ok r4 => if ok = true then ((ev call elt).1 r4).bind fun y r5 => (solidR r5 y).bind fun v r6 => .ok [v] r6 else .ok [] r4
theorem e_cm1 {α : Type} {call : Nat → List Sl → CR} {own : List (Str × Nat)} {elt : IE} {t : IT} {it : II} {c : IO} {r r1 : Env} {xs : List α} {en : α → D} (g : α → List D) (hi : evI call it r = .ok (xs.map en) r1)
    (h : ∀ x ∈ xs, ∃ r', item call elt t c (own.map (·.2)) (en x) (wipeE (own.map (·.2)) r1) = .ok (g x) r' ∧ wipeE (own.map (·.2)) r' = wipeE (own.map (·.2)) r1) (hl : (xs.flatMap g).length ≤ SZ) :
    (ev call (.cm1 own elt t it c)).1 r = .ok (.f (.list (xs.flatMap g))) r1 := by
  show (evI call it r).bind _ = _
  rw [hi]
  show (match compL _ (xs.map en) r1 with
      | .ok ys r2 => if ys.length ≤ SZ then Res.ok (TV.f (.list ys)) (backE r1 (own.map Prod.snd) r2) else .stuck
      | _ => .stuck) = _
  obtain ⟨r2, e, hw⟩ := compL_flat (f := fun x r2 => (asn t (.d x) (wipeE (own.map Prod.snd) r2)).bind fun _ r3 =>
          (evT call c r3).bind fun ok r4 => match ok with
            | true => ((ev call elt).1 r4).bind fun y r5 => (solidR r5 y).bind fun v r6 => .ok [v] r6
            | false => .ok [] r4) (vs := own.map Prod.snd) (en := en) (g := g) xs r1 rfl fun x hx r hr => by
    obtain ⟨r', e1, e2⟩ := h x hx
    refine ⟨r', ?_, e2⟩
    rw [hr, ← e1]
    unfold item
    congr; funext _ r3; congr; funext ok r4; cases ok <;> rfl
  exact (show ∀ m, m = Res.ok (xs.flatMap g) r2 → (match m with
      | .ok ys r2 => if ys.length ≤ SZ then Res.ok (TV.f (.list ys)) (backE r1 (own.map Prod.snd) r2) else .stuck
      | _ => .stuck) = Res.ok (TV.f (.list (xs.flatMap g))) r1 from fun m hm => by
    subst hm
    dsimp only
    rw [if_pos hl, back_wipe hw]) _ e
/-- one item for each -/
theorem e_map {α : Type} {call : Nat → List Sl → CR} {own : List (Str × Nat)} {elt : IE} {t : IT} {it : II} {c : IO} {r r1 : Env} {xs : List α} {en : α → D} (g : α → D) (hi : evI call it r = .ok (xs.map en) r1)
    (h : ∀ x ∈ xs, ∃ r', item call elt t c (own.map (·.2)) (en x) (wipeE (own.map (·.2)) r1) = .ok [g x] r' ∧ wipeE (own.map (·.2)) r' = wipeE (own.map (·.2)) r1) (hl : xs.length ≤ SZ) :
    (ev call (.cm1 own elt t it c)).1 r = .ok (.f (.list (xs.map g))) r1 := by
  have e : xs.flatMap (fun x => [g x]) = xs.map g := by
    clear hi h hl
    induction xs with
    | nil => rfl
    | cons x xs ih =>
      rw [List.flatMap_cons, ih]
      rfl
  have := e_cm1 (elt := elt) (t := t) (c := c) (fun x => [g x]) hi h (by rw [e, List.length_map]; exact hl)
  rw [e] at this
  exact this
/-- those that pass -/
theorem e_filter {α : Type} {call : Nat → List Sl → CR} {own : List (Str × Nat)} {elt : IE} {t : IT} {it : II} {c : IO} {r r1 : Env} {xs : List α} {en : α → D} (q : α → Bool) (g : α → D) (hi : evI call it r = .ok (xs.map en) r1)
    (h : ∀ x ∈ xs, ∃ r', item call elt t c (own.map (·.2)) (en x) (wipeE (own.map (·.2)) r1) = .ok (if q x = true then [g x] else []) r' ∧ wipeE (own.map (·.2)) r' = wipeE (own.map (·.2)) r1) (hl : xs.length ≤ SZ) :
    (ev call (.cm1 own elt t it c)).1 r = .ok (.f (.list ((xs.filter q).map g))) r1 := by
  have e : xs.flatMap (fun x => if q x = true then [g x] else []) = (xs.filter q).map g := by
    clear hi h hl
    induction xs with
    | nil => rfl
    | cons x xs ih =>
      rw [List.flatMap_cons, ih]
      by_cases hq : q x = true <;> simp [hq]
  have := e_cm1 (elt := elt) (t := t) (c := c) (fun x => if q x = true then [g x] else []) hi h (by
    rw [e, List.length_map]
    exact Nat.le_trans (List.length_filter_le _ _) hl)
  rw [e] at this
  exact this
/-- a loop that keeps on -/
theorem for_nx {f : D → Env → Res Fl} {x : D} {xs : List D} {r r' : Env} (h : f x r = .ok .nx r') : forL f (x :: xs) r = forL f xs r' := by
  show (match f x r with
    | .ok .nx r' => forL f xs r'
    | .ok .cnt r' => forL f xs r'
    | .ok .brk r' => .ok .nx r'
    | .ok (.ret b v) r' => .ok (.ret b v) r'
    | .exc c d r' => .exc c d r'
    | .stuck => .stuck) = _
  rw [h]
theorem for_end {f : D → Env → Res Fl} {r : Env} : forL f [] r = .ok .nx r := rfl
end Ev

end
section
set_option linter.all false
set_option maxHeartbeats 4000000
/-! Comprehensions of two turns; while loops. -/
namespace Ev
open PySem
/-- the outer turn of a comprehension of two -/
def item2 (call : Nat → List Sl → CR) (elt : IE) (t : IT) (c : IO) (t2 : IT) (it2 : II) (c2 : IO) (vs2 : List Nat) (x : D) (w : Env) : Res (List D) := (asn t (.d x) w).bind fun _ r3 =>
          (evT call c r3).bind fun ok r4 => if ok = true then (evI call it2 r4).bind fun zs r5 => compL (fun z r6 => item call elt t2 c2 vs2 z (wipeE vs2 r6)) zs r5 else .ok [] r4
theorem e_cm2 {α : Type} {call : Nat → List Sl → CR} {own : List (Str × Nat)} {own2 : List Nat} {elt : IE} {t : IT} {it : II} {c : IO} {t2 : IT} {it2 : II} {c2 : IO} {r r1 : Env} {xs : List α} {en : α → D} (g : α → List D) (hi : evI call it r = .ok (xs.map en) r1)
    (h : ∀ x ∈ xs, ∃ r', item2 call elt t c t2 it2 c2 own2 (en x) (wipeE (own.map (·.2)) r1) = .ok (g x) r' ∧ wipeE (own.map (·.2)) r' = wipeE (own.map (·.2)) r1) (hl : (xs.flatMap g).length ≤ SZ) :
    (ev call (.cm2 own own2 elt t it c t2 it2 c2)).1 r = .ok (.f (.list (xs.flatMap g))) r1 := by
  show (evI call it r).bind _ = _
  rw [hi]
  show (match compL _ (xs.map en) r1 with
      | .ok ys r2 => if ys.length ≤ SZ then Res.ok (TV.f (.list ys)) (backE r1 (own.map Prod.snd) r2) else .stuck
      | _ => .stuck) = _
  obtain ⟨r2, e, hw⟩ := compL_flat (f := fun x r2 => (asn t (.d x) (wipeE (own.map Prod.snd) r2)).bind fun _ r3 =>
          (evT call c r3).bind fun ok r4 => match ok with
            | true => (evI call it2 r4).bind fun zs r5 =>
              compL (fun z r6 => (asn t2 (.d z) (wipeE own2 r6)).bind fun _ r7 =>
                (evT call c2 r7).bind fun ok2 r8 => match ok2 with
                  | true => ((ev call elt).1 r8).bind fun y r9 => (solidR r9 y).bind fun v r10 => .ok [v] r10
                  | false => .ok [] r8) zs r5
            | false => .ok [] r4) (vs := own.map Prod.snd) (en := en) (g := g) xs r1 rfl fun x hx r hr => by
    obtain ⟨r', e1, e2⟩ := h x hx
    refine ⟨r', ?_, e2⟩
    rw [hr, ← e1]
    unfold item2 item
    congr; funext _ r3; congr; funext ok r4
    cases ok
    · rfl
    · show Res.bind _ _ = Res.bind _ _
      congr; funext zs r5; congr; funext z r6; congr; funext _ r7; congr; funext ok2 r8; cases ok2 <;> rfl
  exact (show ∀ m, m = Res.ok (xs.flatMap g) r2 → (match m with
      | .ok ys r2 => if ys.length ≤ SZ then Res.ok (TV.f (.list ys)) (backE r1 (own.map Prod.snd) r2) else .stuck
      | _ => .stuck) = Res.ok (TV.f (.list (xs.flatMap g))) r1 from fun m hm => by
    subst hm
    dsimp only
    rw [if_pos hl, back_wipe hw]) _ e
theorem whl_nx {c : Env → Res Bool} {f : Env → Res Fl} {n : Nat} {r r1 r2 : Env} (hc : c r = .ok true r1) (hf : f r1 = .ok .nx r2) : whileN c f (n + 1) r = whileN c f n r2 := by
  show (c r).bind _ = _
  rw [hc]
  show (match f r1 with
      | .ok .nx r' => whileN c f n r'
      | .ok .cnt r' => whileN c f n r'
      | .ok .brk r' => .ok .nx r'
      | .ok (.ret b v) r' => .ok (.ret b v) r'
      | .exc c d r' => .exc c d r'
      | .stuck => .stuck) = _
  rw [hf]
theorem whl_end {c : Env → Res Bool} {f : Env → Res Fl} {n : Nat} {r r1 : Env} (hc : c r = .ok false r1) : whileN c f (n + 1) r = .ok .nx r1 := by
  show (c r).bind _ = _
  rw [hc]
  rfl
theorem for_ret {f : D → Env → Res Fl} {x : D} {xs : List D} {r r' : Env} {b : Bool} {v : D} (h : f x r = .ok (.ret b v) r') : forL f (x :: xs) r = .ok (.ret b v) r' := by
  show (match f x r with
    | .ok .nx r' => forL f xs r'
    | .ok .cnt r' => forL f xs r'
    | .ok .brk r' => .ok .nx r'
    | .ok (.ret b v) r' => .ok (.ret b v) r'
    | .exc c d r' => .exc c d r'
    | .stuck => .stuck) = _
  rw [h]
end Ev

end
section
set_option linter.all false
set_option maxHeartbeats 4000000
/-! Rules for dicts. -/
namespace Ev
open PySem
section
variable (call : Nat → List Sl → CR) (r : Env)
@[simp] theorem e_emp (t : Bool) : (ev call (.emp t)).1 r = .ok (.f (.dict (if t = true then [markT] else []))) r := rfl
@[simp] theorem e_din (n : Bool) (k d : IE) : (ev call (.din n k d)).1 r = ((ev call k).1 r).bind fun y r1 => ((ev call d).1 r1).bind fun x r2 => bi2S (fun u v => (getD1 u v).map fun t => .d (.bool (if n = true then t.isNone else t.isSome))) (deref r2 x) (deref r2 y) r2 := by
  show Res.bind _ _ = _
  congr; funext y r1; congr; funext x r2
  cases deref r2 x <;> cases deref r2 y <;> rfl
@[simp] theorem e_dix (d k : IE) : (ev call (.dix d k)).1 r = ((ev call d).1 r).bind fun x r1 => ((ev call k).1 r1).bind fun y r2 => bi2S (fun u v => (getD1 u v).bind fun t => t.map .d) (deref r2 x) (deref r2 y) r2 := by
  show Res.bind _ _ = _
  congr; funext x r1; congr; funext y r2
  cases deref r2 x <;> cases deref r2 y <;> rfl
def sdkS : Option D → Env → (D → Env → Res TV) → Res TV
  | some u, r, k => k u r
  | none, _, _ => .stuck
@[simp] theorem sdkS_some (u : D) (k : D → Env → Res TV) : sdkS (some u) r k = k u r := rfl
@[simp] theorem e_sdk (d k v : IE) : (ev call (.sdk d k v)).1 r = ((ev call d).1 r).bind fun x r1 => sdkS (deref r1 x) r1 fun u r1 => ((ev call k).1 r1).bind fun y r2 => ((ev call v).1 r2).bind fun z r3 => (solidR r3 z).bind fun w r4 => un1S (fun kd => (mrgK u kd w).map .f) (deref r4 y) r4 := by
  show Res.bind _ _ = _
  congr; funext x r1
  cases deref r1 x with
  | none => rfl
  | some u =>
    show Res.bind _ _ = Res.bind _ _
    congr; funext y r2; congr; funext z r3; congr; funext w r4
    cases deref r4 y <;> rfl
@[simp] theorem e_tin (n : Bool) (l : IA) (d : IE) : (ev call (.tin n l d)).1 r = (evA call l r).bind fun ds r1 => ((ev call d).1 r1).bind fun x r2 => un1S (fun u => (getT u ds).map fun t => .d (.bool (if n = true then t.isNone else t.isSome))) (deref r2 x) r2 := by
  show Res.bind _ _ = _
  congr; funext ds r1; congr; funext x r2
  cases deref r2 x <;> rfl
@[simp] theorem e_tix (d : IE) (l : IA) : (ev call (.tix d l)).1 r = ((ev call d).1 r).bind fun x r1 => (evA call l r1).bind fun ds r2 => un1S (fun u => (getT u ds).bind fun t => t.map .d) (deref r2 x) r2 := by
  show Res.bind _ _ = _
  congr; funext x r1; congr; funext ds r2
  cases deref r2 x <;> rfl
@[simp] theorem e_tg1 (d : IE) (l : IA) : (ev call (.tg1 d l)).1 r = ((ev call d).1 r).bind fun x r1 => dicS (deref r1 x) r1 fun r1 => (evA call l r1).bind fun ds r2 => un1S (fun u => (getT u ds).map fun t => .d (t.getD .none)) (deref r2 x) r2 := by
  show Res.bind _ _ = _
  congr; funext x r1
  rw [← dic_eq]
  congr; funext _ r1; congr; funext ds r2
  cases deref r2 x <;> rfl
@[simp] theorem e_tg2 (d : IE) (l : IA) (e : IE) : (ev call (.tg2 d l e)).1 r = ((ev call d).1 r).bind fun x r1 => dicS (deref r1 x) r1 fun r1 => (evA call l r1).bind fun ds r2 => ((ev call e).1 r2).bind fun z r3 => (solidR r3 z).bind fun w r4 => un1S (fun u => (getT u ds).map fun t => .d (t.getD w)) (deref r4 x) r4 := by
  show Res.bind _ _ = _
  congr; funext x r1
  rw [← dic_eq]
  congr; funext _ r1; congr; funext ds r2; congr; funext z r3; congr; funext w r4
  cases deref r4 x <;> rfl
@[simp] theorem e_sdt (d : IE) (l : IA) (v : IE) : (ev call (.sdt d l v)).1 r = ((ev call d).1 r).bind fun x r1 => sdkS (deref r1 x) r1 fun u r1 => (evA call l r1).bind fun ds r2 => ((ev call v).1 r2).bind fun z r3 => (solidR r3 z).bind fun w r4 => .of ((mrgT u ds w).map .f) r4 := by
  show Res.bind _ _ = _
  congr; funext x r1
  cases deref r1 x <;> rfl
@[simp] theorem e_sdv (d k v : IE) : (ev call (.sdv d k v)).1 r = ((ev call d).1 r).bind fun x r1 => sdkS (deref r1 x) r1 fun u r1 => ((ev call k).1 r1).bind fun y r2 => ((ev call v).1 r2).bind fun z r3 => (solidR r3 z).bind fun w r4 => un1S (fun kd => (mrgV u kd w).map .f) (deref r4 y) r4 := by
  show Res.bind _ _ = _
  congr; funext x r1
  cases deref r1 x with
  | none => rfl
  | some u =>
    show Res.bind _ _ = Res.bind _ _
    congr; funext y r2; congr; funext z r3; congr; funext w r4
    cases deref r4 y <;> rfl
@[simp] theorem e_sd2 (a b : IE) : (ev call (.sd2 a b)).1 r = ((ev call a).1 r).bind fun x r1 => sdkS (deref r1 x) r1 fun u r1 => ((ev call b).1 r1).bind fun y r2 => un1S (fun v => (mrg2 u v).map .f) (deref r2 y) r2 := by
  show Res.bind _ _ = _
  congr; funext x r1
  cases deref r1 x with
  | none => rfl
  | some u =>
    show Res.bind _ _ = Res.bind _ _
    congr; funext y r2
    cases deref r2 y <;> rfl
def popK (i : Nat) (r : Env) : Option D → List D → Res TV
  | some y, l => .ok (.d y) (setAt r i (.list l))
  | none, _ => .stuck
@[simp] theorem popK_some (i : Nat) (y : D) (l : List D) : popK i r (some y) l = .ok (.d y) (setAt r i (.list l)) := rfl
def popS (i : Nat) (r : Env) : Option D → Res TV
  | some (.list xs) => popK i r xs.getLast? xs.dropLast
  | _ => .stuck
@[simp] theorem popS_l (i : Nat) (xs : List D) : popS i r (some (.list xs)) = popK i r xs.getLast? xs.dropLast := rfl
@[simp] theorem e_pop (i : Nat) : (ev call (.pop i)).1 r = popS i r (mutAt r i) := by
  show (match mutAt r i with
      | some (.list xs) => match xs.getLast? with
        | some y => (Res.ok (TV.d y) (setAt r i (.list xs.dropLast)) : Res TV)
        | none => .stuck
      | _ => .stuck) = _
  cases h : mutAt r i with
  | none => rfl
  | some d =>
    cases d with
    | list xs =>
      rw [popS_l]
      show (match xs.getLast? with
        | some y => (Res.ok (TV.d y) (setAt r i (.list xs.dropLast)) : Res TV)
        | none => .stuck) = _
      cases xs.getLast? <;> rfl
    | _ => rfl
def kgK (ps : List (Str × D)) (y : TV) (w : D) (r : Env) : Res TV := match y with
  | .d (.str x) => .ok (.d ((ps.lookup x).getD w)) r
  | _ => .stuck
@[simp] theorem kgK_s (ps : List (Str × D)) (x : Str) (w : D) : kgK ps (.d (.str x)) w r = .ok (.d ((ps.lookup x).getD w)) r := rfl
@[simp] theorem e_kg2 (x : Str) (ps : List (Str × D)) (k d : IE) : (ev call (.kg2 x ps k d)).1 r = ((ev call k).1 r).bind fun y r1 => ((ev call d).1 r1).bind fun z r2 => (solidR r2 z).bind fun w r3 => kgK ps y w r3 := rfl
@[simp] theorem c_un (u : U1) (a : IE) : (ev call (.un u a)).2 r = ((ev call (.un u a)).1 r).bind tru := t_eq r
@[simp] theorem c_din (n : Bool) (k d : IE) : (ev call (.din n k d)).2 r = ((ev call (.din n k d)).1 r).bind tru := t_eq r
@[simp] theorem c_tin (n : Bool) (l : IA) (d : IE) : (ev call (.tin n l d)).2 r = ((ev call (.tin n l d)).1 r).bind tru := t_eq r
variable (W : Nat)
def dstS (i : Nat) (v : D) : Option D → Option D → Env → Res Fl
  | some u, some kd, r => match mrgP u kd v with
    | some d => .ok .nx (setAt r i d)
    | none => .stuck
  | _, _, _ => .stuck
theorem dstS_some (i : Nat) (u kd v d : D) (h : mrgP u kd v = some d) : dstS i v (some u) (some kd) r = .ok .nx (setAt r i d) := by
  show (match mrgP u kd v with | some d => Res.ok Fl.nx (setAt r i d) | none => .stuck) = _
  rw [h]
@[simp] theorem s_dst (i : Nat) (k e : IE) : evS call W (.dst i k e) r = ((ev call e).1 r).bind fun x r1 => (solidR r1 x).bind fun v r2 => lendF (mutAt r2 i) r2 fun r2 => ((ev call k).1 r2).bind fun y r3 => dstS i v (mutAt r3 i) (deref r3 y) r3 := by
  show Res.bind _ _ = _
  congr; funext x r1; congr; funext v r2
  generalize mutAt r2 i = o
  cases o with
  | none => rfl
  | some d =>
    show Res.bind _ _ = Res.bind _ _
    congr; funext y r3
    generalize mutAt r3 i = o2
    generalize deref r3 y = o3
    cases o2 <;> cases o3 <;> rfl
def tstS (i : Nat) (ds : List D) (v : D) : Option D → Env → Res Fl
  | some u, r => match mrgS u ds v with
    | some d => .ok .nx (setAt r i d)
    | none => .stuck
  | _, _ => .stuck
theorem tstS_some (i : Nat) (u v d : D) (ds : List D) (h : mrgS u ds v = some d) : tstS i ds v (some u) r = .ok .nx (setAt r i d) := by
  show (match mrgS u ds v with | some d => Res.ok Fl.nx (setAt r i d) | none => .stuck) = _
  rw [h]
@[simp] theorem s_tst (i : Nat) (l : IA) (e : IE) : evS call W (.tst i l e) r = ((ev call e).1 r).bind fun x r1 => (solidR r1 x).bind fun v r2 => lendF (mutAt r2 i) r2 fun r2 => (evA call l r2).bind fun ds r3 => tstS i ds v (mutAt r3 i) r3 := by
  show Res.bind _ _ = _
  congr; funext x r1; congr; funext v r2
  generalize mutAt r2 i = o
  cases o with
  | none => rfl
  | some d =>
    show Res.bind _ _ = Res.bind _ _
    congr; funext ds r3
    generalize mutAt r3 i = o2
    cases o2 <;> rfl
end
section
variable (b : Bool) (i : Int) (x : Str) (l : List D) (ps : List (D × D))
@[simp] theorem isN_none : isOf .none .none = some true := rfl
@[simp] theorem isN_bool : isOf (.bool b) .none = some false := rfl
@[simp] theorem isN_int : isOf (.int i) .none = some false := rfl
@[simp] theorem isN_str : isOf (.str x) .none = some false := rfl
@[simp] theorem isN_list : isOf (.list l) .none = some false := rfl
@[simp] theorem isN_tup : isOf (.tuple l) .none = some false := rfl
@[simp] theorem isN_dict : isOf (.dict ps) .none = some false := rfl
end
section
variable (call : Nat → List Sl → CR) (r : Env) (W : Nat)
@[simp] theorem e_mg1 (o k : IE) : (ev call (.mg1 o k)).1 r = ((ev call o).1 r).bind fun x r1 => dicS (deref r1 x) r1 fun r1 => ((ev call k).1 r1).bind fun y r2 =>
      bi2S (fun u v => (getD1 u v).map fun t => .d (t.getD .none)) (deref r2 x) (deref r2 y) r2 := by
  show Res.bind _ _ = _
  congr; funext x r1
  rw [← dic_eq]
  congr; funext _ r1; congr; funext y r2
  cases deref r2 x <;> cases deref r2 y <;> rfl
def appL : Option D → Env → (Env → Res Fl) → Res Fl
  | some (.list _), r, k => k r
  | _, _, _ => .stuck
def appK : Option D → Nat → D → Env → Res Fl
  | some (.list xs), i, v, r => if xs.length < SZ then .ok .nx (setAt r i (.list (xs ++ [v]))) else .stuck
  | _, _, _, _ => .stuck
@[simp] theorem appL_l (xs : List D) (k : Env → Res Fl) : appL (some (.list xs)) r k = k r := rfl
@[simp] theorem appK_l (xs : List D) (i : Nat) (v : D) : appK (some (.list xs)) i v r = if xs.length < SZ then .ok .nx (setAt r i (.list (xs ++ [v]))) else .stuck := rfl
@[simp] theorem s_app (i : Nat) (e : IE) : evS call W (.app i e) r = appL (mutAt r i) r fun r => ((ev call e).1 r).bind fun x r1 => (solidR r1 x).bind fun v r2 => appK (mutAt r2 i) i v r2 := by
  show (match mutAt r i with
    | some (.list _) => _
    | _ => _) = _
  generalize mutAt r i = o
  cases o with
  | none => rfl
  | some d =>
    cases d <;> first | rfl | skip
    show Res.bind _ _ = Res.bind _ _
    congr; funext x r1; congr; funext v r2
    generalize mutAt r2 i = o2
    cases o2 with
    | none => rfl
    | some d2 => cases d2 <;> rfl
end
section
variable (call : Nat → List Sl → CR) (r : Env) (W : Nat)
@[simp] theorem e_dt1 (l : IA) (v : IE) : (ev call (.dt1 l v)).1 r = (evA call l r).bind fun ds r1 => ((ev call v).1 r1).bind fun z r2 => (solidR r2 z).bind fun w r3 =>
      if isKeyT ds = true ∧ ds.length ≤ SZ then .ok (.f (.dict [markT, (.tuple ds, w)])) r3 else .stuck := rfl
theorem s_fri (t : IT) (i : Nat) (a : IB) (ps : List (D × D)) (h : r[i]? = some (.own (.dict (markT :: ps)))) : evS call W (.fri t i a) r = friK i ps (forL (fun x r2 => (asn t (.d x) r2).bind fun _ r3 => evB call W a r3) (ps.map pairD) (r.set i .lck)) := by
  show (match r[i]? with
    | some (.own (.dict ((.none, .int 0) :: ps))) => friK i ps (forL (fun x r2 => (asn t (.d x) r2).bind fun _ r3 => evB call W a r3) (ps.map pairD) (r.set i .lck))
    | _ => .stuck) = _
  rw [h]
  rfl
theorem s_frk (t : IT) (i : Nat) (a : IB) (ps : List (D × D)) (h : r[i]? = some (.val (.dict ps))) (hk : (ps.all fun p => isKey p.1) = true) : evS call W (.frk t i a) r = forL (fun x r2 => (asn t (.d x) r2).bind fun _ r3 => evB call W a r3) (ps.map fun p : PyData × PyData => p.1) r := by
  show (match r[i]? with
    | some (.val (.dict ps)) => if (ps.all fun p => isKey p.1) = true then forL (fun x r2 => (asn t (.d x) r2).bind fun _ r3 => evB call W a r3) (ps.map fun p : PyData × PyData => p.1) r else .stuck
    | _ => .stuck) = _
  rw [h]
  exact if_pos hk
def dpoS (i : Nat) : Option D → Option D → Env → Res Fl
  | some u, some kd, r => match popT u kd with
    | some d => .ok .nx (setAt r i d)
    | none => .stuck
  | _, _, _ => .stuck
theorem s_dpo (i : Nat) (k : IE) (ps : List (D × D)) (h : mutAt r i = some (.dict (markT :: ps))) : evS call W (.dpo i k) r = ((ev call k).1 r).bind fun y r1 => dpoS i (mutAt r1 i) (deref r1 y) r1 := by
  show (match mutAt r i with
    | some (.dict ((.none, .int 0) :: _)) => _
    | _ => _) = _
  rw [h]
  show Res.bind _ _ = Res.bind _ _
  congr; funext y r1
  generalize mutAt r1 i = o1
  generalize deref r1 y = o2
  cases o1 <;> cases o2 <;> rfl
end
section
variable (b : Bool) (i : Int) (x : Str) (l : List D) (ps : List (D × D))
@[simp] theorem nd_none : notDict .none = true := rfl
@[simp] theorem ty_int_none : isTy .int .none = false := rfl
@[simp] theorem ty_bool_none : isTy .bool .none = false := rfl
@[simp] theorem ty_str_none : isTy .str .none = false := rfl
@[simp] theorem ty_tuple_none : isTy .tuple .none = false := rfl
@[simp] theorem ty_list_none : isTy .list .none = false := rfl
@[simp] theorem nd_bool : notDict (.bool b) = true := rfl
@[simp] theorem ty_int_bool : isTy .int (.bool b) = true := rfl
@[simp] theorem ty_bool_bool : isTy .bool (.bool b) = true := rfl
@[simp] theorem ty_str_bool : isTy .str (.bool b) = false := rfl
@[simp] theorem ty_tuple_bool : isTy .tuple (.bool b) = false := rfl
@[simp] theorem ty_list_bool : isTy .list (.bool b) = false := rfl
@[simp] theorem nd_int : notDict (.int i) = true := rfl
@[simp] theorem ty_int_int : isTy .int (.int i) = true := rfl
@[simp] theorem ty_bool_int : isTy .bool (.int i) = false := rfl
@[simp] theorem ty_str_int : isTy .str (.int i) = false := rfl
@[simp] theorem ty_tuple_int : isTy .tuple (.int i) = false := rfl
@[simp] theorem ty_list_int : isTy .list (.int i) = false := rfl
@[simp] theorem nd_str : notDict (.str x) = true := rfl
@[simp] theorem ty_int_str : isTy .int (.str x) = false := rfl
@[simp] theorem ty_bool_str : isTy .bool (.str x) = false := rfl
@[simp] theorem ty_str_str : isTy .str (.str x) = true := rfl
@[simp] theorem ty_tuple_str : isTy .tuple (.str x) = false := rfl
@[simp] theorem ty_list_str : isTy .list (.str x) = false := rfl
@[simp] theorem nd_list : notDict (.list l) = true := rfl
@[simp] theorem ty_int_list : isTy .int (.list l) = false := rfl
@[simp] theorem ty_bool_list : isTy .bool (.list l) = false := rfl
@[simp] theorem ty_str_list : isTy .str (.list l) = false := rfl
@[simp] theorem ty_tuple_list : isTy .tuple (.list l) = false := rfl
@[simp] theorem ty_list_list : isTy .list (.list l) = true := rfl
@[simp] theorem nd_tup : notDict (.tuple l) = true := rfl
@[simp] theorem ty_int_tup : isTy .int (.tuple l) = false := rfl
@[simp] theorem ty_bool_tup : isTy .bool (.tuple l) = false := rfl
@[simp] theorem ty_str_tup : isTy .str (.tuple l) = false := rfl
@[simp] theorem ty_tuple_tup : isTy .tuple (.tuple l) = true := rfl
@[simp] theorem ty_list_tup : isTy .list (.tuple l) = false := rfl
@[simp] theorem nd_dict : notDict (.dict ps) = false := rfl
@[simp] theorem ty_int_dict : isTy .int (.dict ps) = false := rfl
@[simp] theorem ty_bool_dict : isTy .bool (.dict ps) = false := rfl
@[simp] theorem ty_str_dict : isTy .str (.dict ps) = false := rfl
@[simp] theorem ty_tuple_dict : isTy .tuple (.dict ps) = false := rfl
@[simp] theorem ty_list_dict : isTy .list (.dict ps) = false := rfl
end
end Ev

end
section
set_option maxRecDepth 100000
local macro_rules | `(tactic| simp! [$ts,*]) => `(tactic| simp only [Ev.bind_ok', Ev.bind_stuck', Ev.bind_ite, Ev.of_some', Ev.of_none', Ev.of_ite, Ev.slD_val, Ev.slD_own, Ev.slD_bor, Ev.deref_d, Ev.deref_f, Ev.deref_s, Ev.tru_eq, Ev.truS_some, Ev.truth_bool, Ev.truth_int, Ev.truth_list, Ev.truth_tuple, Ev.un1S_some, Ev.bi2S_some, Ev.andK_b, Ev.orK_b, Ev.negK_i, Ev.varK_val, Ev.varK_own, Ev.varK_bor, Ev.solS_val, Ev.solS_own, Ev.sol_d, Ev.sol_f, Ev.sol_s, Ev.muS_own, Ev.muS_bor, Ev.mutAt_eq, Ev.bop_add, Ev.bop_sub, Ev.bop_mul, Ev.bop_div, Ev.bop_mod, Ev.bop_tup, Ev.bop_lst, Ev.cop_lt, Ev.cop_le, Ev.cop_gt, Ev.cop_ge, Ev.cop_eqi, Ev.cop_eqs, Ev.cop_nei, Ev.cop_nes, Ev.cop_is, Ev.cop_isNot, Ev.cop_in, Ev.is_bb, Ev.e_none, Ev.e_bool, Ev.e_int, Ev.e_str, Ev.e_var, Ev.e_glob, Ev.e_bin, Ev.e_neg, Ev.e_cmp, Ev.chnS_some, Ev.e_chn, Ev.e_not, Ev.e_and, Ev.e_or, Ev.e_ife, Ev.e_tup, Ev.e_lst, Ev.e_idx, Ev.e_isi, Ev.e_bl1, Ev.e_bl2, Ev.callK_v, Ev.callK_f, Ev.callK_v1, Ev.callK_f1, Ev.callK_v2, Ev.argK_some, Ev.e_call, Ev.argsS_nil, Ev.argsS_v, Ev.argsS_l, Ev.lends_nil, Ev.lends_v, Ev.lends_l, Ev.a_nil, Ev.a_cons, Ev.r_nil, Ev.r_cons, Ev.lendK_some, Ev.r_lend, Ev.o_no, Ev.derK_some, Ev.o_yes, Ev.t_no, Ev.t_yes, Ev.i_val, Ev.slS_some, Ev.e_slc, Ev.opt_none, Ev.opt_int, Ev.slice_list, Ev.slice_tup, Ev.e_dsp, Ev.dicS_some, Ev.e_mg2, Ev.rgK_i, Ev.i_rg1, Ev.rgK2_i, Ev.i_rg2, Ev.enK_some, Ev.i_enm, Ev.zpK_some, Ev.i_zip, Ev.c_cst, Ev.c_var, Ev.c_cmp, Ev.c_chn, Ev.c_isi, Ev.c_call, Ev.c_bl1, Ev.c_not, Ev.c_and, Ev.c_or, Ev.c_ife, Ev.seqK_nx, Ev.seqK_brk, Ev.seqK_cnt, Ev.seqK_ret, Ev.seqK_exc, Ev.seqK_stuck, Ev.seqK_ite, Ev.b_nil, Ev.b_cons, Ev.retK_d, Ev.retK_f, Ev.s_ret, Ev.s_retN, Ev.s_asg, Ev.s_ex, Ev.s_if, Ev.s_for, Ev.s_whl, Ev.s_pas, Ev.s_rse, Ev.stoK_un, Ev.stoK_val, Ev.stoK_own, Ev.asn_d, Ev.asn_f, Ev.asn_fo, Ev.asn_t, Ev.asnL_nil, Ev.asnL_cons, Ev.asnP_nil, Ev.asnP_cons, Ev.s_asp, Ev.fK_f, Ev.fK_d, Ev.fK_s, Ev.f_nil, Ev.f_cons, Ev.lendF_some, Ev.setS_own, Ev.setS_bor, Ev.setAt_eq, Ev.ixK_some, Ev.setK_l, Ev.s_sto, Ev.outs_nil, Ev.outs_v, Ev.outs_b, Ev.endK_nx, Ev.endK_ret, Ev.endK_exc, Ev.endK_stuck, Ev.endK_ite, Ev.endS_some, Ev.endCall_eq, Ev.e_emp, Ev.e_din, Ev.e_dix, Ev.sdkS_some, Ev.e_sdk, Ev.e_tin, Ev.e_tix, Ev.e_tg1, Ev.e_tg2, Ev.e_sdt, Ev.c_din, Ev.c_tin, Ev.s_dst, Ev.s_tst, Ev.isN_none, Ev.isN_bool, Ev.isN_int, Ev.isN_str, Ev.isN_list, Ev.isN_tup, Ev.isN_dict, Ev.e_mg1, Ev.appL_l, Ev.appK_l, Ev.s_app, Ev.nd_none, Ev.ty_int_none, Ev.ty_bool_none, Ev.ty_str_none, Ev.ty_tuple_none, Ev.ty_list_none, Ev.nd_bool, Ev.ty_int_bool, Ev.ty_bool_bool, Ev.ty_str_bool, Ev.ty_tuple_bool, Ev.ty_list_bool, Ev.nd_int, Ev.ty_int_int, Ev.ty_bool_int, Ev.ty_str_int, Ev.ty_tuple_int, Ev.ty_list_int, Ev.nd_str, Ev.ty_int_str, Ev.ty_bool_str, Ev.ty_str_str, Ev.ty_tuple_str, Ev.ty_list_str, Ev.nd_list, Ev.ty_int_list, Ev.ty_bool_list, Ev.ty_str_list, Ev.ty_tuple_list, Ev.ty_list_list, Ev.nd_tup, Ev.ty_int_tup, Ev.ty_bool_tup, Ev.ty_str_tup, Ev.ty_tuple_tup, Ev.ty_list_tup, Ev.nd_dict, Ev.ty_int_dict, Ev.ty_bool_dict, Ev.ty_str_dict, Ev.ty_tuple_dict, Ev.ty_list_dict, List.getElem?_cons_zero, List.getElem?_cons_succ, List.getElem?_nil, List.set_cons_zero, List.set_cons_succ, List.length_cons, List.length_nil, List.replicate_succ, List.replicate_zero, List.cons_append, List.nil_append, List.append_nil, List.nodup_nil, List.nodup_cons, List.mem_cons, List.not_mem_nil, List.isEmpty_nil, List.isEmpty_cons, Option.map_some, Option.map_none, Option.bind_some, Option.bind_none, Option.getD_some, Option.getD_none, Option.isSome_some, Option.isSome_none, Option.isNone_some, Option.isNone_none, ite_true, ite_false, if_true, if_false, decide_true, decide_false, decide_eq_true_eq, Bool.not_true, Bool.not_false, Bool.not_not, Bool.true_and, Bool.false_and, Bool.and_true, Bool.and_false, Bool.or_true, Bool.or_false, Bool.true_or, Bool.false_or, Bool.not_eq_true, Bool.not_eq_true', Bool.and_self, Bool.or_self, Bool.false_eq_true, reduceCtorEq, not_true_eq_false, not_false_eq_true, or_false, false_or, or_true, true_or, and_true, true_and, and_false, false_and, eq_self, bne_self_eq_false, Nat.reduceAdd, Nat.reduceSub, Nat.reduceLeDiff, Nat.reduceLT, Nat.reduceEqDiff, Nat.zero_add, Nat.reduceMul, Int.reduceNeg, Int.reduceAdd, Int.reduceSub, Int.reduceMul, Int.reduceLT, Int.reduceLE, Int.reduceEq, Int.reduceDiv, Int.reduceMod, Int.reduceToNat, Int.reducePow, Nat.succ_ne_zero, Nat.add_eq_zero_iff, Nat.le_refl, Nat.one_ne_zero, ↓reduceIte, Ev.SZ, $ts,*])
section
set_option maxRecDepth 100000
set_option linter.all false
set_option maxHeartbeats 4000000
/-! Comprehensions of one or two own names, by what their element comes to in the frame with the names set. -/
namespace Ev
open PySem
theorem set_un {r : Env} {k : Nat} (h : r[k]? = some .un) : r.set k .un = r := by
  apply List.ext_getElem?
  intro j
  rw [List.getElem?_set]
  by_cases e : k = j
  · subst e
    have := (List.getElem?_eq_some_iff.mp h).1
    rw [if_pos rfl, if_pos this, h]
  · rw [if_neg e]
theorem wipe_un {r : Env} {k : Nat} (h : r[k]? = some .un) : wipeE [k] r = r := set_un h
theorem wipe_set {r : Env} {k : Nat} (h : r[k]? = some .un) (s : Sl) : wipeE [k] (r.set k s) = r := by
  show (r.set k s).set k .un = r
  rw [List.set_set]
  exact set_un h
theorem asn_un {r : Env} {k : Nat} (h : r[k]? = some .un) (x : D) : asn (.n k false) (.d x) r = .ok () (r.set k (.val x)) := by
  rw [asn_d, h]
  rfl
section
variable {α : Type} {call : Nat → List Sl → CR} {nm : Str} {k : Nat} {elt : IE} {it : II} {c : IE} {r r1 : Env} {xs : List α} {en : α → D}
theorem cm_map (g : α → D) (hk : r1[k]? = some .un) (hi : evI call it r = .ok (xs.map en) r1)
    (h : ∀ x ∈ xs, (((ev call elt).1 (r1.set k (.val (en x)))).bind fun y r5 => solidR r5 y) = .ok (g x) (r1.set k (.val (en x)))) (hl : xs.length ≤ SZ) :
    (ev call (.cm1 [(nm, k)] elt (.n k false) it .no)).1 r = .ok (.f (.list (xs.map g))) r1 := by
  refine e_map g hi (fun x hx => ⟨r1.set k (.val (en x)), ?_, ?_⟩) hl
  · show item call elt (.n k false) .no [k] (en x) (wipeE [k] r1) = _
    rw [wipe_un hk]
    unfold item
    rw [asn_un hk]
    have e := h x hx
    show ((ev call elt).1 (r1.set k (.val (en x)))).bind (fun y r5 => (solidR r5 y).bind fun v r6 => .ok [v] r6) = _
    revert e
    generalize (ev call elt).1 (r1.set k (.val (en x))) = m
    intro e
    cases m with
    | ok y r5 =>
      have e' : solidR r5 y = .ok (g x) (r1.set k (.val (en x))) := e
      show (solidR r5 y).bind _ = _
      rw [e']
      rfl
    | exc a b c => exact nomatch e
    | stuck => exact nomatch e
  · show wipeE [k] _ = wipeE [k] _
    rw [wipe_un hk, wipe_set hk]
theorem cm_fil (q : α → Bool) (g : α → D) (hk : r1[k]? = some .un) (hi : evI call it r = .ok (xs.map en) r1)
    (hc : ∀ x ∈ xs, (ev call c).2 (r1.set k (.val (en x))) = .ok (q x) (r1.set k (.val (en x))))
    (h : ∀ x ∈ xs, q x = true → (((ev call elt).1 (r1.set k (.val (en x)))).bind fun y r5 => solidR r5 y) = .ok (g x) (r1.set k (.val (en x)))) (hl : xs.length ≤ SZ) :
    (ev call (.cm1 [(nm, k)] elt (.n k false) it (.yes c))).1 r = .ok (.f (.list ((xs.filter q).map g))) r1 := by
  refine e_filter q g hi (fun x hx => ⟨r1.set k (.val (en x)), ?_, ?_⟩) hl
  · show item call elt (.n k false) (.yes c) [k] (en x) (wipeE [k] r1) = _
    rw [wipe_un hk]
    unfold item
    rw [asn_un hk, bind_ok', t_yes, hc x hx, bind_ok']
    cases hq : q x with
    | false => rfl
    | true =>
      have e := h x hx hq
      rw [if_pos rfl, if_pos rfl]
      revert e
      generalize (ev call elt).1 (r1.set k (.val (en x))) = m
      intro e
      cases m with
      | ok y r5 =>
        have e' : solidR r5 y = .ok (g x) (r1.set k (.val (en x))) := e
        show (solidR r5 y).bind _ = _
        rw [e']
        rfl
      | exc a b c => exact nomatch e
      | stuck => exact nomatch e
  · show wipeE [k] _ = wipeE [k] _
    rw [wipe_un hk, wipe_set hk]
end
/-! two names: for a, b in .. -/
theorem wipe2_un {r : Env} {k j : Nat} (h : r[k]? = some .un) (h2 : r[j]? = some .un) : wipeE [k, j] r = r := by
  show (r.set j .un).set k .un = r
  rw [set_un h2, set_un h]
theorem wipe2_set {r : Env} {k j : Nat} (hkj : k ≠ j) (h : r[k]? = some .un) (h2 : r[j]? = some .un) (s t : Sl) : wipeE [k, j] ((r.set k s).set j t) = r := by
  show (((r.set k s).set j t).set j .un).set k .un = r
  rw [List.set_set, List.set_comm _ _ hkj, List.set_set, set_un h2, set_un h]
theorem asn2_un {r : Env} {k j : Nat} (hkj : k ≠ j) (h : r[k]? = some .un) (h2 : r[j]? = some .un) (x y : D) : asn (.t [.n k false, .n j false]) (.d (.tuple [x, y])) r = .ok () ((r.set k (.val x)).set j (.val y)) := by
  rw [asn_t, asnL_cons, asn_un h, bind_ok', asnL_cons, asn_d, List.getElem?_set, if_neg hkj, h2]
  rfl
section
variable {α : Type} {call : Nat → List Sl → CR} {nm nm2 : Str} {k j : Nat} {elt : IE} {it : II} {c : IE} {r r1 : Env} {xs : List α} {en en2 : α → D}
theorem cm_map2 (g : α → D) (hkj : k ≠ j) (hk : r1[k]? = some .un) (hj : r1[j]? = some .un) (hi : evI call it r = .ok (xs.map fun x => .tuple [en x, en2 x]) r1)
    (h : ∀ x ∈ xs, (((ev call elt).1 ((r1.set k (.val (en x))).set j (.val (en2 x)))).bind fun y r5 => solidR r5 y) = .ok (g x) ((r1.set k (.val (en x))).set j (.val (en2 x)))) (hl : xs.length ≤ SZ) :
    (ev call (.cm1 [(nm, k), (nm2, j)] elt (.t [.n k false, .n j false]) it .no)).1 r = .ok (.f (.list (xs.map g))) r1 := by
  refine e_map g hi (fun x hx => ⟨(r1.set k (.val (en x))).set j (.val (en2 x)), ?_, ?_⟩) hl
  · show item call elt _ .no [k, j] (.tuple [en x, en2 x]) (wipeE [k, j] r1) = _
    rw [wipe2_un hk hj]
    unfold item
    rw [asn2_un hkj hk hj]
    have e := h x hx
    show ((ev call elt).1 _).bind (fun y r5 => (solidR r5 y).bind fun v r6 => .ok [v] r6) = _
    revert e
    generalize (ev call elt).1 ((r1.set k (.val (en x))).set j (.val (en2 x))) = m
    intro e
    cases m with
    | ok y r5 =>
      have e' : solidR r5 y = .ok (g x) _ := e
      show (solidR r5 y).bind _ = _
      rw [e']
      rfl
    | exc a b c => exact nomatch e
    | stuck => exact nomatch e
  · show wipeE [k, j] _ = wipeE [k, j] _
    rw [wipe2_un hk hj, wipe2_set hkj hk hj]
theorem cm_fil2 (q : α → Bool) (g : α → D) (hkj : k ≠ j) (hk : r1[k]? = some .un) (hj : r1[j]? = some .un) (hi : evI call it r = .ok (xs.map fun x => .tuple [en x, en2 x]) r1)
    (hc : ∀ x ∈ xs, (ev call c).2 ((r1.set k (.val (en x))).set j (.val (en2 x))) = .ok (q x) ((r1.set k (.val (en x))).set j (.val (en2 x))))
    (h : ∀ x ∈ xs, q x = true → (((ev call elt).1 ((r1.set k (.val (en x))).set j (.val (en2 x)))).bind fun y r5 => solidR r5 y) = .ok (g x) ((r1.set k (.val (en x))).set j (.val (en2 x)))) (hl : xs.length ≤ SZ) :
    (ev call (.cm1 [(nm, k), (nm2, j)] elt (.t [.n k false, .n j false]) it (.yes c))).1 r = .ok (.f (.list ((xs.filter q).map g))) r1 := by
  refine e_filter q g hi (fun x hx => ⟨(r1.set k (.val (en x))).set j (.val (en2 x)), ?_, ?_⟩) hl
  · show item call elt _ (.yes c) [k, j] (.tuple [en x, en2 x]) (wipeE [k, j] r1) = _
    rw [wipe2_un hk hj]
    unfold item
    rw [asn2_un hkj hk hj, bind_ok', t_yes, hc x hx, bind_ok']
    cases hq : q x with
    | false => rfl
    | true =>
      have e := h x hx hq
      rw [if_pos rfl, if_pos rfl]
      revert e
      generalize (ev call elt).1 ((r1.set k (.val (en x))).set j (.val (en2 x))) = m
      intro e
      cases m with
      | ok y r5 =>
        have e' : solidR r5 y = .ok (g x) _ := e
        show (solidR r5 y).bind _ = _
        rw [e']
        rfl
      | exc a b c => exact nomatch e
      | stuck => exact nomatch e
  · show wipeE [k, j] _ = wipeE [k, j] _
    rw [wipe2_un hk hj, wipe2_set hkj hk hj]
end
/-! a for loop whose turns all go on: an invariant by the part that is done -/
theorem for_inv {α : Type} {f : D → Env → Res Fl} {en : α → D} (I : List α → Env → Prop) : ∀ (xs done : List α) (r : Env), I done r →
    (∀ d x r, (∃ t, xs = t ++ x :: (xs.drop (t.length + 1)) ∧ d = done ++ t) → I d r → ∃ r', f (en x) r = .ok .nx r' ∧ I (d ++ [x]) r') → ∃ r', forL f (xs.map en) r = .ok .nx r' ∧ I (done ++ xs) r'
  | [], done, r, h, _ => ⟨r, rfl, by rw [List.append_nil]; exact h⟩
  | x :: xs, done, r, h, hf => by
    obtain ⟨r1, e1, h1⟩ := hf done x r ⟨[], rfl, by simp⟩ h
    obtain ⟨r2, e2, h2⟩ := for_inv I xs (done ++ [x]) r1 h1 fun d y r ⟨t, ht, hd⟩ hI => hf d y r ⟨x :: t, by
      show x :: xs = x :: (t ++ y :: ((x :: xs).drop (t.length + 1 + 1)))
      rw [List.drop_succ_cons, ← ht], by rw [hd, List.append_assoc]; rfl⟩ hI
    refine ⟨r2, ?_, by rw [List.append_assoc] at h2; exact h2⟩
    rw [List.map_cons, for_nx e1]
    exact e2
end Ev
namespace Ev
open PySem
theorem and_ok {p : Prop} [Decidable p] {q : Bool} {r : Env} : (if p then Res.ok q r else .ok false r) = .ok (decide p && q) r := by by_cases h : p <;> simp [h]
theorem or_ok {p : Prop} [Decidable p] {q : Bool} {r : Env} : (if p then Res.ok true r else .ok q r) = .ok (decide p || q) r := by by_cases h : p <;> simp [h]
theorem and_okv {p : Prop} [Decidable p] {q : Bool} {r : Env} : (if p then Res.ok (TV.d (.bool q)) r else .ok (.d (.bool false)) r) = .ok (.d (.bool (decide p && q))) r := by by_cases h : p <;> simp [h]
theorem or_okv {p : Prop} [Decidable p] {q : Bool} {r : Env} : (if p then Res.ok (TV.d (.bool true)) r else .ok (.d (.bool q)) r) = .ok (.d (.bool (decide p || q))) r := by by_cases h : p <;> simp [h]
theorem eqOk_shaped {a b : D} (ha : SeqAt.shaped a = true) (hb : SeqAt.shaped b = true) : eqOk a b = true := by
  unfold eqOk
  rw [ha, hb]
  simp
theorem shaped_list {xs : List D} (h1 : PyData.canLayAll0 xs = true) (h2 : PyData.depthAll xs ≤ 60) : SeqAt.shaped (.list xs) = true := by
  unfold SeqAt.shaped
  rw [Bool.and_eq_true]
  refine ⟨h1, decide_eq_true ?_⟩
  show PyData.depthAll _ + 1 ≤ 64
  omega
theorem shaped_tup {xs : List D} (h1 : PyData.canLayAll0 xs = true) (h2 : PyData.depthAll xs ≤ 60) : SeqAt.shaped (.tuple xs) = true := by
  unfold SeqAt.shaped
  rw [Bool.and_eq_true]
  refine ⟨h1, decide_eq_true ?_⟩
  show PyData.depthAll _ + 1 ≤ 64
  omega
theorem cop_eqD {a b : D} (h : eqOk a b = true) : cop .eq a b = some (PyData.eqv a b) := by
  show (if eqOk a b = true then some (PyData.eqv a b) else none) = _
  rw [if_pos h]
theorem cop_neD {a b : D} (h : eqOk a b = true) : cop .ne a b = some (!PyData.eqv a b) := by
  show (if eqOk a b = true then some (!PyData.eqv a b) else none) = _
  rw [if_pos h]
theorem ne_lnil {xs : List D} (h1 : PyData.canLayAll0 xs = true) (h2 : PyData.depthAll xs ≤ 60) : cop .ne (.list xs) (.list []) = some (decide (xs ≠ [])) := by
  rw [cop_neD (eqOk_shaped (shaped_list h1 h2) (by decide))]
  cases xs <;> rfl
theorem eq_lnil {xs : List D} (h1 : PyData.canLayAll0 xs = true) (h2 : PyData.depthAll xs ≤ 60) : cop .eq (.list xs) (.list []) = some (decide (xs = [])) := by
  rw [cop_eqD (eqOk_shaped (shaped_list h1 h2) (by decide))]
  cases xs <;> rfl
theorem lay_ints : ∀ l : List Int, PyData.canLayAll0 (l.map PyData.int) = true ∧ PyData.depthAll (l.map PyData.int) ≤ 1
  | [] => ⟨rfl, Nat.zero_le _⟩
  | i :: l => by
    obtain ⟨h1, h2⟩ := lay_ints l
    refine ⟨h1, ?_⟩
    have h3 : PyData.depth (.int i) ≤ 1 := by simp [PyData.depth]
    show max (PyData.depth (.int i)) (PyData.depthAll (l.map PyData.int)) ≤ 1
    omega
theorem ne_ints (l : List Int) : cop .ne (.list (l.map PyData.int)) (.list []) = some (decide (l ≠ [])) := by
  rw [ne_lnil (lay_ints l).1 (by have := (lay_ints l).2; omega)]
  cases l <;> rfl
theorem eq_ints (l : List Int) : cop .eq (.list (l.map PyData.int)) (.list []) = some (decide (l = [])) := by
  rw [eq_lnil (lay_ints l).1 (by have := (lay_ints l).2; omega)]
  cases l <;> rfl
theorem len_tupD (l : List D) : b1 .len (.tuple l) = some (.d (.int l.length)) := rfl
theorem len_lstD (l : List D) : b1 .len (.list l) = some (.d (.int l.length)) := rfl
theorem tup_lD (l : List D) : b1 .tuple (.list l) = some (.d (.tuple l)) := rfl
theorem b2_max (i j : Int) : b2 .max (.int i) (.int j) = some (.int (if j > i then j else i)) := rfl
theorem b2_min (i j : Int) : b2 .min (.int i) (.int j) = some (.int (if j < i then j else i)) := rfl
theorem rng_map : ∀ (n : Nat) (i : Int), rng i n = ((List.range n).map fun k : Nat => i + (k : Int)).map PyData.int
  | 0, i => rfl
  | n + 1, i => by
    show PyData.int i :: rng (i + 1) n = _
    rw [rng_map n (i + 1), List.range_succ_eq_map, List.map_cons, List.map_map, List.map_cons, List.map_map, List.map_map]
    congr 1
    · show PyData.int i = .int (i + 0); rw [Int.add_zero]
    · apply List.map_congr_left
      intro k _
      show PyData.int (i + 1 + (k : Int)) = .int (i + ((k + 1 : Nat) : Int))
      rw [Int.natCast_add]
      congr 1
      omega
end Ev
namespace Ev
open PySem
theorem compO_flat {α : Type} {f : D → Env → Res (List D)} {i : Nat} {en : α → D} {g : α → List D} {xs : List α} {P : Env → Prop} (hm : ∀ r, P r → mutAt r i = some (.list (xs.map en))) (hf : ∀ x ∈ xs, ∀ r, P r → ∃ r', f (en x) r = .ok (g x) r' ∧ P r') :
    ∀ (n k : Nat) (r : Env), P r → k + n = xs.length → ∃ r', compO f i n k r = .ok ((xs.drop k).flatMap g) r' ∧ P r'
  | 0, k, r, h, hk => by
    refine ⟨r, ?_, h⟩
    unfold compO
    rw [hm r h]
    dsimp only
    rw [if_pos (by rw [List.length_map]; omega), List.drop_of_length_le (by omega)]
    rfl
  | n + 1, k, r, h, hk => by
    have hlt : k < xs.length := by omega
    obtain ⟨r1, e1, h1⟩ := hf xs[k] (List.getElem_mem hlt) r h
    obtain ⟨r2, e2, h2⟩ := compO_flat hm hf n (k + 1) r1 h1 (by omega)
    refine ⟨r2, ?_, h2⟩
    unfold compO
    rw [hm r h]
    dsimp only
    rw [List.getElem?_map, List.getElem?_eq_getElem hlt]
    dsimp only [Option.map]
    rw [e1]
    dsimp only
    rw [e2, List.drop_eq_getElem_cons hlt, List.flatMap_cons]
theorem cmo_fil {α : Type} {call : Nat → List Sl → CR} {nm : Str} {k i : Nat} {elt c : IE} {r : Env} {xs : List α} {en : α → D} (q : α → Bool) (g : α → D) (hki : k ≠ i) (hm : mutAt r i = some (.list (xs.map en))) (hk : r[k]? = some .un)
    (hc : ∀ x ∈ xs, (ev call c).2 (r.set k (.val (en x))) = .ok (q x) (r.set k (.val (en x))))
    (h : ∀ x ∈ xs, q x = true → (((ev call elt).1 (r.set k (.val (en x)))).bind fun y r5 => solidR r5 y) = .ok (g x) (r.set k (.val (en x)))) (hl : xs.length ≤ SZ) :
    (ev call (.cmo [(nm, k)] elt (.n k false) i (.yes c))).1 r = .ok (.f (.list ((xs.filter q).map g))) r := by
  have hwm : ∀ r', wipeE [k] r' = r → mutAt r' i = some (.list (xs.map en)) := fun r' hr => by
    rw [← hm, ← hr, mutAt_eq, mutAt_eq, wipeE_get, if_neg (by simpa using fun z => hki z.symm)]
  have e : xs.flatMap (fun x => if q x = true then [g x] else []) = (xs.filter q).map g := by
    clear hm hc h hl hwm
    induction xs with
    | nil => rfl
    | cons x xs ih =>
      rw [List.flatMap_cons, ih]
      by_cases hq : q x = true <;> simp [hq]
  obtain ⟨r2, e2, hr2⟩ := compO_flat (f := fun x r2 => (asn (.n k false) (.d x) (wipeE [k] r2)).bind fun _ r3 =>
          (evT call (.yes c) r3).bind fun ok r4 => match ok with
            | true => ((ev call elt).1 r4).bind fun y r5 => (solidR r5 y).bind fun v r6 => .ok [v] r6
            | false => .ok [] r4) (i := i) (en := en) (g := fun x => if q x = true then [g x] else []) (xs := xs) (P := fun r' => wipeE [k] r' = r) hwm (fun x hx r' hr => by
    refine ⟨r.set k (.val (en x)), ?_, wipe_set hk _⟩
    rw [hr, asn_un hk, bind_ok', t_yes, hc x hx, bind_ok']
    cases hq : q x with
    | false => rfl
    | true =>
      have e := h x hx hq
      dsimp only
      rw [if_pos rfl]
      revert e
      generalize (ev call elt).1 (r.set k (.val (en x))) = m
      intro e
      cases m with
      | ok y r5 =>
        have e' : solidR r5 y = .ok (g x) (r.set k (.val (en x))) := e
        show (solidR r5 y).bind _ = _
        rw [e']
        rfl
      | exc a b c => exact nomatch e
      | stuck => exact nomatch e) xs.length 0 r (wipe_un hk) (by omega)
  rw [List.drop_zero, e] at e2
  show (match mutAt r i with
    | some (.list xs) => if ([k].contains i) = true then Res.stuck else
      match compO _ i xs.length 0 r with
      | .ok ys r2 => if ys.length ≤ SZ then Res.ok (TV.f (.list ys)) (backE r [k] r2) else .stuck
      | _ => .stuck
    | _ => .stuck) = _
  rw [hm]
  dsimp only
  rw [if_neg (by simpa using fun z : i = k => hki z.symm), List.length_map]
  exact (show ∀ m, m = Res.ok ((xs.filter q).map g) r2 → (match m with
      | .ok ys r2 => if ys.length ≤ SZ then Res.ok (TV.f (.list ys)) (backE r [k] r2) else .stuck
      | _ => .stuck) = Res.ok (TV.f (.list ((xs.filter q).map g))) r from fun m hm => by
    subst hm
    dsimp only
    rw [if_pos (by rw [List.length_map]; exact Nat.le_trans (List.length_filter_le _ _) hl), back_wipe (by rw [hr2, wipe_un hk])]) _ e2
end Ev

end
end
section
set_option linter.all false
set_option maxHeartbeats 4000000
/-! Comprehensions over a standing dict's keys. -/
namespace Ev
open PySem
theorem e_cmk {α : Type} {call : Nat → List Sl → CR} {own : List (Str × Nat)} {elt : IE} {t : IT} {i : Nat} {c : IO} {r r1 : Env} {xs : List α} {en : α → D} (g : α → List D) (hi : kysG i r = .ok (xs.map en) r1)
    (h : ∀ x ∈ xs, ∃ r', item call elt t c (own.map (·.2)) (en x) (wipeE (own.map (·.2)) r1) = .ok (g x) r' ∧ wipeE (own.map (·.2)) r' = wipeE (own.map (·.2)) r1) (hl : (xs.flatMap g).length ≤ SZ) :
    (ev call (.cmk own elt t i c)).1 r = .ok (.f (.list (xs.flatMap g))) r1 := by
  show (kysG i r).bind _ = _
  rw [hi]
  show (match compL _ (xs.map en) r1 with
      | .ok ys r2 => if ys.length ≤ SZ then Res.ok (TV.f (.list ys)) (backE r1 (own.map Prod.snd) r2) else .stuck
      | _ => .stuck) = _
  obtain ⟨r2, e, hw⟩ := compL_flat (f := fun x r2 => (asn t (.d x) (wipeE (own.map Prod.snd) r2)).bind fun _ r3 =>
          (evT call c r3).bind fun ok r4 => match ok with
            | true => ((ev call elt).1 r4).bind fun y r5 => (solidR r5 y).bind fun v r6 => .ok [v] r6
            | false => .ok [] r4) (vs := own.map Prod.snd) (en := en) (g := g) xs r1 rfl fun x hx r hr => by
    obtain ⟨r', e1, e2⟩ := h x hx
    refine ⟨r', ?_, e2⟩
    rw [hr, ← e1]
    unfold item
    congr; funext _ r3; congr; funext ok r4; cases ok <;> rfl
  exact (show ∀ m, m = Res.ok (xs.flatMap g) r2 → (match m with
      | .ok ys r2 => if ys.length ≤ SZ then Res.ok (TV.f (.list ys)) (backE r1 (own.map Prod.snd) r2) else .stuck
      | _ => .stuck) = Res.ok (TV.f (.list (xs.flatMap g))) r1 from fun m hm => by
    subst hm
    dsimp only
    rw [if_pos hl, back_wipe hw]) _ e
theorem cmk_fil {α : Type} {call : Nat → List Sl → CR} {nm : Str} {k i : Nat} {elt c : IE} {r : Env} {xs : List α} {en : α → D} (q : α → Bool) (g : α → D) (hk : r[k]? = some .un) (hi : kysG i r = .ok (xs.map en) r)
    (hc : ∀ x ∈ xs, (ev call c).2 (r.set k (.val (en x))) = .ok (q x) (r.set k (.val (en x))))
    (h : ∀ x ∈ xs, q x = true → (((ev call elt).1 (r.set k (.val (en x)))).bind fun y r5 => solidR r5 y) = .ok (g x) (r.set k (.val (en x)))) (hl : xs.length ≤ SZ) :
    (ev call (.cmk [(nm, k)] elt (.n k false) i (.yes c))).1 r = .ok (.f (.list ((xs.filter q).map g))) r := by
  have e : xs.flatMap (fun x => if q x = true then [g x] else []) = (xs.filter q).map g := by
    clear hi h hl hc
    induction xs with
    | nil => rfl
    | cons x xs ih =>
      rw [List.flatMap_cons, ih]
      by_cases hq : q x = true <;> simp [hq]
  have := e_cmk (call := call) (own := [(nm, k)]) (elt := elt) (t := .n k false) (c := .yes c) (fun x => if q x = true then [g x] else []) hi (fun x hx => ⟨r.set k (.val (en x)), ?_, ?_⟩) (by
    rw [e, List.length_map]
    exact Nat.le_trans (List.length_filter_le _ _) hl)
  · rw [e] at this
    exact this
  · show item call elt (.n k false) (.yes c) [k] (en x) (wipeE [k] r) = _
    rw [wipe_un hk]
    unfold item
    rw [asn_un hk, bind_ok', t_yes, hc x hx, bind_ok']
    cases hq : q x with
    | false => rfl
    | true =>
      have e := h x hx hq
      show ((ev call elt).1 (r.set k (.val (en x)))).bind (fun y r5 => (solidR r5 y).bind fun v r6 => .ok [v] r6) = _
      revert e
      generalize (ev call elt).1 (r.set k (.val (en x))) = m
      intro e
      cases m with
      | ok y r5 =>
        have e' : solidR r5 y = .ok (g x) (r.set k (.val (en x))) := e
        show (solidR r5 y).bind _ = _
        rw [e']
        rfl
      | exc a b c => exact nomatch e
      | stuck => exact nomatch e
  · show wipeE [k] _ = wipeE [k] _
    rw [wipe_un hk, wipe_set hk]
end Ev

end
section
set_option maxRecDepth 100000
local macro_rules | `(tactic| simp! [$ts,*]) => `(tactic| simp only [Ev.bind_ok', Ev.bind_stuck', Ev.bind_ite, Ev.of_some', Ev.of_none', Ev.of_ite, Ev.slD_val, Ev.slD_own, Ev.slD_bor, Ev.deref_d, Ev.deref_f, Ev.deref_s, Ev.tru_eq, Ev.truS_some, Ev.truth_bool, Ev.truth_int, Ev.truth_list, Ev.truth_tuple, Ev.un1S_some, Ev.bi2S_some, Ev.andK_b, Ev.orK_b, Ev.negK_i, Ev.varK_val, Ev.varK_own, Ev.varK_bor, Ev.solS_val, Ev.solS_own, Ev.sol_d, Ev.sol_f, Ev.sol_s, Ev.muS_own, Ev.muS_bor, Ev.mutAt_eq, Ev.bop_add, Ev.bop_sub, Ev.bop_mul, Ev.bop_div, Ev.bop_mod, Ev.bop_tup, Ev.bop_lst, Ev.cop_lt, Ev.cop_le, Ev.cop_gt, Ev.cop_ge, Ev.cop_eqi, Ev.cop_eqs, Ev.cop_nei, Ev.cop_nes, Ev.cop_is, Ev.cop_isNot, Ev.cop_in, Ev.is_bb, Ev.e_none, Ev.e_bool, Ev.e_int, Ev.e_str, Ev.e_var, Ev.e_glob, Ev.e_bin, Ev.e_neg, Ev.e_cmp, Ev.chnS_some, Ev.e_chn, Ev.e_not, Ev.e_and, Ev.e_or, Ev.e_ife, Ev.e_tup, Ev.e_lst, Ev.e_idx, Ev.e_isi, Ev.e_bl1, Ev.e_bl2, Ev.callK_v, Ev.callK_f, Ev.callK_v1, Ev.callK_f1, Ev.callK_v2, Ev.argK_some, Ev.e_call, Ev.argsS_nil, Ev.argsS_v, Ev.argsS_l, Ev.lends_nil, Ev.lends_v, Ev.lends_l, Ev.a_nil, Ev.a_cons, Ev.r_nil, Ev.r_cons, Ev.lendK_some, Ev.r_lend, Ev.o_no, Ev.derK_some, Ev.o_yes, Ev.t_no, Ev.t_yes, Ev.i_val, Ev.slS_some, Ev.e_slc, Ev.opt_none, Ev.opt_int, Ev.slice_list, Ev.slice_tup, Ev.e_dsp, Ev.dicS_some, Ev.e_mg2, Ev.rgK_i, Ev.i_rg1, Ev.rgK2_i, Ev.i_rg2, Ev.enK_some, Ev.i_enm, Ev.zpK_some, Ev.i_zip, Ev.c_cst, Ev.c_var, Ev.c_cmp, Ev.c_chn, Ev.c_isi, Ev.c_call, Ev.c_bl1, Ev.c_not, Ev.c_and, Ev.c_or, Ev.c_ife, Ev.seqK_nx, Ev.seqK_brk, Ev.seqK_cnt, Ev.seqK_ret, Ev.seqK_exc, Ev.seqK_stuck, Ev.seqK_ite, Ev.b_nil, Ev.b_cons, Ev.retK_d, Ev.retK_f, Ev.s_ret, Ev.s_retN, Ev.s_asg, Ev.s_ex, Ev.s_if, Ev.s_for, Ev.s_whl, Ev.s_pas, Ev.s_rse, Ev.stoK_un, Ev.stoK_val, Ev.stoK_own, Ev.asn_d, Ev.asn_f, Ev.asn_fo, Ev.asn_t, Ev.asnL_nil, Ev.asnL_cons, Ev.asnP_nil, Ev.asnP_cons, Ev.s_asp, Ev.fK_f, Ev.fK_d, Ev.fK_s, Ev.f_nil, Ev.f_cons, Ev.lendF_some, Ev.setS_own, Ev.setS_bor, Ev.setAt_eq, Ev.ixK_some, Ev.setK_l, Ev.s_sto, Ev.outs_nil, Ev.outs_v, Ev.outs_b, Ev.endK_nx, Ev.endK_ret, Ev.endK_exc, Ev.endK_stuck, Ev.endK_ite, Ev.endS_some, Ev.endCall_eq, Ev.e_emp, Ev.e_din, Ev.e_dix, Ev.sdkS_some, Ev.e_sdk, Ev.e_tin, Ev.e_tix, Ev.e_tg1, Ev.e_tg2, Ev.e_sdt, Ev.c_din, Ev.c_tin, Ev.s_dst, Ev.s_tst, Ev.isN_none, Ev.isN_bool, Ev.isN_int, Ev.isN_str, Ev.isN_list, Ev.isN_tup, Ev.isN_dict, Ev.e_mg1, Ev.appL_l, Ev.appK_l, Ev.s_app, Ev.nd_none, Ev.ty_int_none, Ev.ty_bool_none, Ev.ty_str_none, Ev.ty_tuple_none, Ev.ty_list_none, Ev.nd_bool, Ev.ty_int_bool, Ev.ty_bool_bool, Ev.ty_str_bool, Ev.ty_tuple_bool, Ev.ty_list_bool, Ev.nd_int, Ev.ty_int_int, Ev.ty_bool_int, Ev.ty_str_int, Ev.ty_tuple_int, Ev.ty_list_int, Ev.nd_str, Ev.ty_int_str, Ev.ty_bool_str, Ev.ty_str_str, Ev.ty_tuple_str, Ev.ty_list_str, Ev.nd_list, Ev.ty_int_list, Ev.ty_bool_list, Ev.ty_str_list, Ev.ty_tuple_list, Ev.ty_list_list, Ev.nd_tup, Ev.ty_int_tup, Ev.ty_bool_tup, Ev.ty_str_tup, Ev.ty_tuple_tup, Ev.ty_list_tup, Ev.nd_dict, Ev.ty_int_dict, Ev.ty_bool_dict, Ev.ty_str_dict, Ev.ty_tuple_dict, Ev.ty_list_dict, List.getElem?_cons_zero, List.getElem?_cons_succ, List.getElem?_nil, List.set_cons_zero, List.set_cons_succ, List.length_cons, List.length_nil, List.replicate_succ, List.replicate_zero, List.cons_append, List.nil_append, List.append_nil, List.nodup_nil, List.nodup_cons, List.mem_cons, List.not_mem_nil, List.isEmpty_nil, List.isEmpty_cons, Option.map_some, Option.map_none, Option.bind_some, Option.bind_none, Option.getD_some, Option.getD_none, Option.isSome_some, Option.isSome_none, Option.isNone_some, Option.isNone_none, ite_true, ite_false, if_true, if_false, decide_true, decide_false, decide_eq_true_eq, Bool.not_true, Bool.not_false, Bool.not_not, Bool.true_and, Bool.false_and, Bool.and_true, Bool.and_false, Bool.or_true, Bool.or_false, Bool.true_or, Bool.false_or, Bool.not_eq_true, Bool.not_eq_true', Bool.and_self, Bool.or_self, Bool.false_eq_true, reduceCtorEq, not_true_eq_false, not_false_eq_true, or_false, false_or, or_true, true_or, and_true, true_and, and_false, false_and, eq_self, bne_self_eq_false, Nat.reduceAdd, Nat.reduceSub, Nat.reduceLeDiff, Nat.reduceLT, Nat.reduceEqDiff, Nat.zero_add, Nat.reduceMul, Int.reduceNeg, Int.reduceAdd, Int.reduceSub, Int.reduceMul, Int.reduceLT, Int.reduceLE, Int.reduceEq, Int.reduceDiv, Int.reduceMod, Int.reduceToNat, Int.reducePow, Nat.succ_ne_zero, Nat.add_eq_zero_iff, Nat.le_refl, Nat.one_ne_zero, ↓reduceIte, Ev.SZ, $ts,*])
section
set_option maxRecDepth 100000
set_option linter.all false
set_option maxHeartbeats 4000000
/-! Dicts from pairs of inR to values; lists of inR in a row. -/
namespace Ev
open PySem
def inR (lo : Int) (n : Nat) : List Int := (List.range n).map fun k : Nat => lo + (k : Int)
theorem rng_inR (lo : Int) (n : Nat) : rng lo n = (inR lo n).map PyData.int := rng_map n lo
theorem mem_inR {lo x : Int} {n : Nat} : x ∈ inR lo n ↔ lo ≤ x ∧ x < lo + n := by
  unfold inR
  rw [List.mem_map]
  constructor
  · rintro ⟨k, hk, rfl⟩
    have := List.mem_range.mp hk
    omega
  · rintro ⟨h1, h2⟩
    exact ⟨(x - lo).toNat, List.mem_range.mpr (by omega), by omega⟩
theorem inR_nodup (lo : Int) (n : Nat) : (inR lo n).Nodup := by
  unfold inR
  exact List.Pairwise.map _ (fun a b h => by intro e; apply h; omega) List.nodup_range
theorem inR_len (lo : Int) (n : Nat) : (inR lo n).length = n := by unfold inR; rw [List.length_map, List.length_range]
theorem inR_sorted (lo : Int) (n : Nat) : (inR lo n).Pairwise (· < ·) := by
  unfold inR
  rw [List.pairwise_map]
  exact List.Pairwise.imp (fun h => by omega) List.pairwise_lt_range
theorem inR_succ (lo : Int) (n : Nat) : inR lo (n + 1) = inR lo n ++ [lo + n] := by
  unfold inR
  rw [List.range_succ, List.map_append]
  rfl
theorem inR_cons (lo : Int) (n : Nat) : inR lo (n + 1) = lo :: inR (lo + 1) n := by
  unfold inR
  rw [List.range_succ_eq_map, List.map_cons, List.map_map]
  congr 1
  · show lo + 0 = lo; omega
  · apply List.map_congr_left
    intro k _
    show lo + ((k + 1 : Nat) : Int) = lo + 1 + (k : Int)
    omega
/-! pairs as keys -/
section
variable {β : Type} (ev : β → D)
def encK (p : (Int × Int) × β) : D × D := (.tuple [.int p.1.1, .int p.1.2], ev p.2)
def dicD (ps : List ((Int × Int) × β)) : D := .dict (markT :: ps.map (encK ev))
def lookP (ps : List ((Int × Int) × β)) (i j : Int) : Option β := (ps.find? fun p => p.1.1 == i && p.1.2 == j).map (·.2)
theorem tkIs_K (p : (Int × Int) × β) (i j : Int) : tkIs (encK ev p).1 [.int i, .int j] = (p.1.1 == i && p.1.2 == j) := by
  show (p.1.1 == i && (p.1.2 == j && true)) = _
  rw [Bool.and_true]
theorem lookT_K : ∀ (ps : List ((Int × Int) × β)) (i j : Int), lookT (ps.map (encK ev)) [.int i, .int j] = (lookP ps i j).map ev
  | [], i, j => rfl
  | p :: ps, i, j => by
    show (if tkIs (encK ev p).1 [.int i, .int j] = true then some (ev p.2) else lookT (ps.map (encK ev)) [.int i, .int j]) = _
    rw [tkIs_K, lookT_K ps i j]
    unfold lookP
    rw [List.find?_cons]
    cases h : (p.1.1 == i && p.1.2 == j) <;> rfl
theorem getT_K (ps : List ((Int × Int) × β)) (i j : Int) : getT (dicD ev ps) [.int i, .int j] = some ((lookP ps i j).map ev) := by
  show (if (([PyData.int i, .int j].all isKey && decide ([PyData.int i, .int j].length ≤ SZ)) = true) then some (lookT (ps.map (encK ev)) [.int i, .int j]) else none) = _
  rw [lookT_K]
  exact if_pos (by rfl)
theorem lookP_iff {ps : List ((Int × Int) × β)} (h : (ps.map (·.1)).Nodup) (i j : Int) (q : β) : lookP ps i j = some q ↔ ((i, j), q) ∈ ps := by
  induction ps with
  | nil => simp [lookP]
  | cons p ps ih =>
    have hn := List.nodup_cons.mp (show (p.1 :: ps.map (·.1)).Nodup from h)
    have ih := ih hn.2
    unfold lookP at ih ⊢
    rw [List.find?_cons]
    obtain ⟨⟨a, b⟩, c⟩ := p
    cases hp : (((a, b), c) : (Int × Int) × β).1.1 == i && (((a, b), c) : (Int × Int) × β).1.2 == j with
    | true =>
      obtain ⟨h1, h2⟩ : a = i ∧ b = j := by simpa using hp
      subst h1; subst h2
      constructor
      · intro e
        cases (Option.some.inj e : c = q)
        exact List.mem_cons_self
      · intro e
        rcases List.mem_cons.mp e with e | e
        · cases e; rfl
        · exact absurd (List.mem_map.mpr ⟨_, e, rfl⟩) hn.1
    | false =>
      rw [List.mem_cons]
      have hne : ¬ (a = i ∧ b = j) := by simpa using hp
      constructor
      · intro e
        exact .inr (ih.mp e)
      · rintro (e | e)
        · cases e; exact absurd ⟨rfl, rfl⟩ hne
        · exact ih.mpr e
theorem putT_K {ps : List ((Int × Int) × β)} {i j : Int} (h : (i, j) ∉ ps.map (·.1)) (v : β) : putT (ps.map (encK ev)) [.int i, .int j] (ev v) = (ps ++ [((i, j), v)]).map (encK ev) := by
  have hf : ((ps.map (encK ev)).any fun p => tkIs p.1 [.int i, .int j]) = false := by
    rw [List.any_eq_false]
    intro p hp
    obtain ⟨q, hq, rfl⟩ := List.mem_map.mp hp
    rw [tkIs_K]
    intro e
    apply h
    obtain ⟨h1, h2⟩ : q.1.1 = i ∧ q.1.2 = j := by simpa using e
    exact List.mem_map.mpr ⟨q, hq, by rw [← h1, ← h2]⟩
  unfold putT
  rw [hf, if_neg (by decide), List.map_append]
  rfl
theorem mrgS_K {ps : List ((Int × Int) × β)} {i j : Int} (h : (i, j) ∉ ps.map (·.1)) (v : β) (hl : ps.length < SZ) : mrgS (dicD ev ps) [.int i, .int j] (ev v) = some (dicD ev (ps ++ [((i, j), v)])) := by
  show (if ((([PyData.int i, .int j].all isKey && decide ([PyData.int i, .int j].length ≤ SZ)) && decide ((ps.map (encK ev)).length < SZ)) = true) then some (PyData.dict (markT :: putT (ps.map (encK ev)) [.int i, .int j] (ev v))) else none) = _
  rw [putT_K ev h]
  refine if_pos ?_
  rw [List.length_map, decide_eq_true hl]
  rfl
def hsh (k : Int × Int) : Int := hashI [k.1, k.2]
theorem hashesT_K : ∀ ps : List ((Int × Int) × β), hashesT (ps.map (encK ev)) = some (ps.map fun p => hsh p.1)
  | [] => rfl
  | p :: ps => by
    show (match some [p.1.1, p.1.2], hashesT (ps.map (encK ev)) with
      | some l, some hs => some (hashI l :: hs)
      | _, _ => none) = _
    rw [hashesT_K ps]
    rfl
theorem nodupI_iff : ∀ l : List Int, nodupI l = true ↔ l.Nodup
  | [] => ⟨fun _ => List.nodup_nil, fun _ => rfl⟩
  | x :: l => by
    show (!l.contains x && nodupI l) = true ↔ _
    rw [Bool.and_eq_true, nodupI_iff l, List.nodup_cons]
    simp
theorem mrgT_K {K : List (Int × Int)} (hK : ∀ a ∈ K, ∀ b ∈ K, hsh a = hsh b → a = b) {ps : List ((Int × Int) × β)} {i j : Int} (hn : (ps.map (·.1)).Nodup) (hk : ∀ p ∈ ps, p.1 ∈ K) (h : (i, j) ∉ ps.map (·.1)) (v : β) (hl : ps.length < SZ) : mrgT (dicD ev ps) [.int i, .int j] (ev v) = some (dicD ev (ps ++ [((i, j), v)])) := by
  show (match hashesT (ps.map (encK ev)) with
    | some hs => if ((([PyData.int i, .int j].all isKey && decide ([PyData.int i, .int j].length ≤ SZ)) && nodupI hs && decide ((ps.map (encK ev)).length < SZ)) = true) then some (PyData.dict (markT :: putT (ps.map (encK ev)) [.int i, .int j] (ev v))) else none
    | none => none) = _
  rw [hashesT_K, putT_K ev h]
  have e : nodupI (ps.map fun p => hsh p.1) = true := by
    rw [nodupI_iff]
    rw [List.nodup_iff_pairwise_ne] at hn ⊢
    rw [List.pairwise_map] at hn ⊢
    refine List.Pairwise.imp_of_mem ?_ hn
    intro a b ha hb hab e
    exact hab (hK _ (hk a ha) _ (hk b hb) e)
  show (if ((([PyData.int i, .int j].all isKey && decide ([PyData.int i, .int j].length ≤ SZ)) && nodupI (ps.map fun p => hsh p.1) && decide ((ps.map (encK ev)).length < SZ)) = true) then _ else none) = _
  refine if_pos ?_
  rw [List.length_map, decide_eq_true hl, e]
  rfl
end
/-! inR as keys -/
section
variable {β : Type} (ev : β → D)
def encW (p : Int × β) : D × D := (.int p.1, ev p.2)
def wayD (ps : List (Int × β)) : D := .dict (ps.map (encW ev))
def lookW (ps : List (Int × β)) (i : Int) : Option β := (ps.find? fun p => p.1 == i).map (·.2)
theorem lookD_W : ∀ (ps : List (Int × β)) (i : Int), lookD (ps.map (encW ev)) (.int i) = (lookW ps i).map ev
  | [], i => rfl
  | p :: ps, i => by
    show (if (p.1 == i) = true then some (ev p.2) else lookD (ps.map (encW ev)) (.int i)) = _
    rw [lookD_W ps i]
    unfold lookW
    rw [List.find?_cons]
    cases h : (p.1 == i) <;> rfl
theorem keys_W (ps : List (Int × β)) : (ps.map (encW ev)).all (fun p => isKey p.1) = true := by
  rw [List.all_eq_true]
  intro p hp
  obtain ⟨q, _, rfl⟩ := List.mem_map.mp hp
  rfl
theorem getD1_W (ps : List (Int × β)) (i : Int) : getD1 (wayD ev ps) (.int i) = some ((lookW ps i).map ev) := by
  show (if (isKey (.int i) && (ps.map (encW ev)).all (fun p => isKey p.1)) = true then some (lookD (ps.map (encW ev)) (.int i)) else none) = _
  rw [lookD_W, keys_W]
  rfl
theorem mrgK_W {ps : List (Int × β)} {i : Int} (h : i ∉ ps.map (·.1)) (v : β) (hl : ps.length < SZ) : mrgK (wayD ev ps) (.int i) (ev v) = some (wayD ev (ps ++ [(i, v)])) := by
  have hf : ((ps.map (encW ev)).any fun p => keyIs p.1 (.int i)) = false := by
    rw [List.any_eq_false]
    intro p hp
    obtain ⟨q, hq, rfl⟩ := List.mem_map.mp hp
    intro e
    apply h
    have : q.1 = i := by simpa [keyIs, encW] using e
    exact List.mem_map.mpr ⟨q, hq, this⟩
  show (if (isKey (.int i) && (ps.map (encW ev)).all (fun p => isKey p.1) && decide ((ps.map (encW ev)).length < SZ)) = true then some (PyData.dict (putD (ps.map (encW ev)) (.int i) (ev v))) else none) = _
  have hp : putD (ps.map (encW ev)) (.int i) (ev v) = (ps ++ [(i, v)]).map (encW ev) := by
    unfold putD
    rw [hf, if_neg (by decide), List.map_append]
    rfl
  rw [hp, keys_W, List.length_map, decide_eq_true hl]
  rfl
theorem lookW_mem {ps : List (Int × β)} {i : Int} {v : β} (h : lookW ps i = some v) : (i, v) ∈ ps := by
  unfold lookW at h
  cases hf : ps.find? fun p => p.1 == i with
  | none => rw [hf] at h; exact nomatch h
  | some p =>
    rw [hf] at h
    have h1 := List.find?_some hf
    have h2 := List.mem_of_find?_eq_some hf
    have h3 : p.1 = i := by simpa using h1
    have h4 : p.2 = v := Option.some.inj h
    rw [← h3, ← h4]
    exact h2
theorem lookW_some {ps : List (Int × β)} {i : Int} : (lookW ps i).isSome = decide (i ∈ ps.map (·.1)) := by
  unfold lookW
  rw [Option.isSome_map]
  rw [Bool.eq_iff_iff, List.find?_isSome, decide_eq_true_iff, List.mem_map]
  constructor
  · rintro ⟨x, h1, h2⟩; exact ⟨x, h1, by simpa using h2⟩
  · rintro ⟨x, h1, h2⟩; exact ⟨x, h1, by simpa using h2⟩
end
end Ev
namespace Ev
open PySem
theorem small_in {j : Int} (h : -1000000000 ≤ j) (h2 : j ≤ 1000000000) : small62 j = true := by
  unfold small62 P62
  simp
  omega
theorem rg2_in {call : Nat → List Sl → CR} {x y : IE} {r : Ev.Env} {i j : Int} (h1 : (ev call x).1 r = .ok (.d (.int i)) r) (h2 : (ev call y).1 r = .ok (.d (.int j)) r) (hi : -1000000000 ≤ i ∧ i ≤ 1000000000) (hj : -1000000000 ≤ j ∧ j ≤ 1000000000) : evI call (.rg2 x y) r = .ok ((inR i (j - i).toNat).map PyData.int) r := by
  rw [i_rg2, h1, bind_ok', h2, bind_ok', deref_d, deref_d, rgK2_i, if_pos (by rw [small_in hi.1 hi.2, small_in hj.1 hj.2]; rfl), rng_inR]
theorem rg1_in {call : Nat → List Sl → CR} {x : IE} {r r' : Ev.Env} {j : Int} (h1 : (ev call x).1 r = .ok (.d (.int j)) r') (hj : -1000000000 ≤ j ∧ j ≤ 1000000000) : evI call (.rg1 x) r = .ok ((inR 0 j.toNat).map PyData.int) r' := by
  rw [i_rg1, h1, bind_ok', deref_d, rgK_i, if_pos (small_in hj.1 hj.2), rng_inR]
theorem rg1_inN {call : Nat → List Sl → CR} {x : IE} {r r' : Ev.Env} {n : Nat} (h1 : (ev call x).1 r = .ok (.d (.int n)) r') (hj : n ≤ 1000000000) : evI call (.rg1 x) r = .ok ((inR 0 n).map PyData.int) r' := by
  rw [rg1_in h1 (by omega), Int.toNat_natCast]
theorem inR_sz {lo : Int} {n : Nat} (h : n ≤ 1000000) : (inR lo n).length ≤ SZ := by
  rw [inR_len]
  exact Nat.le_trans h (by decide)
end Ev

end
end
section
set_option linter.all false
/-! A for loop that returns at the first item of a kind. -/
namespace Ev
open PySem
theorem for_search {α : Type} {f : D → Env → Res Fl} {en : α → D} (q : α → Bool) (v : α → D) (b : Bool) (I : Env → Prop) : ∀ (xs : List α),
    (∀ x ∈ xs, ∀ r, I r → (q x = true → ∃ r', f (en x) r = .ok (.ret b (v x)) r' ∧ I r') ∧ (q x = false → ∃ r', f (en x) r = .ok .nx r' ∧ I r')) →
    ∀ r, I r → ∃ r', I r' ∧ forL f (xs.map en) r = match xs.find? q with
      | some x => .ok (.ret b (v x)) r'
      | none => .ok .nx r'
  | [], _, r, h => ⟨r, h, rfl⟩
  | x :: xs, hf, r, h => by
    obtain ⟨h1, h2⟩ := hf x List.mem_cons_self r h
    rw [List.map_cons, List.find?_cons]
    cases hq : q x with
    | true =>
      obtain ⟨r', e, i⟩ := h1 hq
      exact ⟨r', i, for_ret e⟩
    | false =>
      obtain ⟨r', e, i⟩ := h2 hq
      obtain ⟨r2, i2, e2⟩ := for_search q v b I xs (fun y hy => hf y (List.mem_cons_of_mem _ hy)) r' i
      refine ⟨r2, i2, ?_⟩
      rw [for_nx e]
      exact e2
end Ev

end
section
set_option linter.all false
set_option maxHeartbeats 4000000
/-! The order of data that sorted goes by. -/
namespace Ev
open PySem PySem.W PyProof.Rows
theorem leD_eq (a b : D) : leD a b = !(lexLt itemOrd (keyToks b) (keyToks a)) := rfl
theorem blt_int (i j : Int) : itemOrd.blt (.inl i) (.inl j) = decide (i < j) := rfl
theorem toks_tup (x : D) (xs : List D) : keyToks (.tuple (x :: xs)) = .inl 1 :: (keyToks x ++ keyToks (.tuple xs)) := by
  show keyToksAll (x :: xs) = _
  rw [toks_all_cons]
  rfl
theorem lex_same (x : D) (r t : List D) : lexLt itemOrd (keyToks (.tuple (x :: r))) (keyToks (.tuple (x :: t))) = lexLt itemOrd (keyToks (.tuple r)) (keyToks (.tuple t)) := by
  rw [toks_tup, toks_tup]
  exact lex_pre (.inl 1 :: keyToks x) _ _
theorem leD_same (x : D) (r t : List D) : leD (.tuple (x :: r)) (.tuple (x :: t)) = leD (.tuple r) (.tuple t) := by
  rw [leD_eq, leD_eq, lex_same]
theorem leD_int (i j : Int) (r t : List D) : leD (.tuple (.int i :: r)) (.tuple (.int j :: t)) = (decide (i < j) || (decide (i = j) && leD (.tuple r) (.tuple t))) := by
  by_cases h : i = j
  · subst h
    rw [leD_same]
    simp
  · rw [leD_eq, toks_tup, toks_tup]
    show (!lexLt itemOrd (.inl 1 :: .inl j :: ([] ++ keyToks (.tuple t))) (.inl 1 :: .inl i :: ([] ++ keyToks (.tuple r)))) = _
    rw [lex_cons, lex_cons, blt_int, blt_int, blt_int]
    by_cases h2 : i < j
    · have : ¬ j < i := by omega
      simp [h2, this]
    · have : j < i := by omega
      simp [h2, this, h]
theorem leD_ints (i j : Int) : leD (.tuple [.int i]) (.tuple [.int j]) = decide (i ≤ j) := by
  rw [leD_int]
  have : leD (.tuple []) (.tuple []) = true := by rfl
  rw [this]
  by_cases h : i < j
  · simp [h]; omega
  · by_cases h2 : i = j
    · simp [h2]
    · simp [h, h2]; omega
theorem leD_trans (a b c : D) : leD a b = true → leD b c = true → leD a c = true := (sortLe_total (listOrd itemOrd) false keyToks).trans a b c
theorem leD_total (a b : D) : (leD a b || leD b a) = true := by
  have h : leD a b = true ∨ leD b a = true := (sortLe_total (listOrd itemOrd) false keyToks).total a b
  rcases h with h | h <;> simp [h]
/-- sorted of encoded rows -/
theorem srtD_map {α : Type} (en : α → D) (l : List α) : srtD (l.map en) = (l.mergeSort fun x y => leD (en x) (en y)).map en :=
  (PySem.W.sort_maps (r := fun x y => leD (en x) (en y)) (s := leD) en (l := l) (fun _ _ _ _ => rfl)).symm
theorem srt_pair {α : Type} (en : α → D) (l : List α) : (l.mergeSort fun x y => leD (en x) (en y)).Pairwise fun x y => leD (en x) (en y) = true :=
  List.pairwise_mergeSort (le := fun x y => leD (en x) (en y)) (fun a b c h1 h2 => leD_trans (en a) (en b) (en c) h1 h2) (fun a b => leD_total (en a) (en b)) l
end Ev

end
section
set_option linter.all false
set_option maxRecDepth 100000
set_option maxHeartbeats 4000000
/-! Small facts about the evaluator's operators. -/
namespace Ev
open PySem
section
variable (a b : Int) (r : Ev.Env) (k : Ev.Env → Res TV)
theorem chn_leT : chnS .le (some (.int a)) (some (.int b)) r k = if a ≤ b then k r else .ok (.d (.bool false)) r := by
  rw [chnS_some (b := decide (a ≤ b)) (h := cop_le a b)]
  by_cases h : a ≤ b <;> simp [h]
theorem chn_ltT : chnS .lt (some (.int a)) (some (.int b)) r k = if a < b then k r else .ok (.d (.bool false)) r := by
  rw [chnS_some (b := decide (a < b)) (h := cop_lt a b)]
  by_cases h : a < b <;> simp [h]
theorem chn_gtT : chnS .gt (some (.int a)) (some (.int b)) r k = if b < a then k r else .ok (.d (.bool false)) r := by
  rw [chnS_some (b := decide (b < a)) (h := cop_gt a b)]
  by_cases h : b < a <;> simp [h]
theorem chn_eqT : chnS .eq (some (.int a)) (some (.int b)) r k = if a = b then k r else .ok (.d (.bool false)) r := by
  rw [chnS_some (b := decide (a = b)) (h := cop_eqi a b)]
  by_cases h : a = b <;> simp [h]
theorem chn_eqS (x y : Str) : chnS .eq (some (.str x)) (some (.str y)) r k = if x = y then k r else .ok (.d (.bool false)) r := by
  rw [chnS_some (b := decide (x = y)) (h := cop_eqs x y)]
  by_cases h : x = y <;> simp [h]
end
section
variable {α : Type}
theorem boolsL_map (f : α → Bool) : ∀ l : List α, boolsL (l.map fun a => .bool (f a)) = some (l.map f)
  | [] => rfl
  | a :: l => by
    show (boolsL (l.map fun a => .bool (f a))).map (f a :: ·) = _
    rw [boolsL_map f l]
    rfl
theorem any_bools (f : α → Bool) (l : List α) : b1 .any (.list (l.map fun a => .bool (f a))) = some (.d (.bool (l.any f))) := by
  show (boolsL _).map _ = _
  rw [boolsL_map]
  show some (TV.d (.bool ((l.map f).any id))) = _
  rw [List.any_map]
  rfl
theorem all_bools (f : α → Bool) (l : List α) : b1 .all (.list (l.map fun a => .bool (f a))) = some (.d (.bool (l.all f))) := by
  show (boolsL _).map _ = _
  rw [boolsL_map]
  show some (TV.d (.bool ((l.map f).all id))) = _
  rw [List.all_map]
  rfl
theorem all_true (l : List α) : b1 .all (.list (l.map fun _ => .bool true)) = some (.d (.bool true)) := by
  rw [all_bools (fun _ => true)]
  simp
theorem ints_map (f : α → Int) : ∀ l : List α, intsL (l.map fun a => .int (f a)) = some (l.map f)
  | [] => rfl
  | a :: l => by
    show (intsL (l.map fun a => .int (f a))).map (f a :: ·) = _
    rw [ints_map f l]
    rfl
theorem sum_intsF (f : α → Int) (l : List α) : b1 .sum (.list (l.map fun a => .int (f a))) = some (.d (.int (l.map f).sum)) := by
  show (intsL _).map _ = _
  rw [ints_map]
  rfl
end
theorem ints_id (l : List Int) : intsL (l.map PyData.int) = some l := by
  have e := ints_map (fun i : Int => i) l
  rw [List.map_id'] at e
  exact e
theorem max_ints (x : Int) (l : List Int) : b1 .max (.list ((x :: l).map PyData.int)) = some (.d (.int (maxL x l))) := by
  show (match intsL ((x :: l).map PyData.int) with | some (x :: r) => some (TV.d (.int (maxL x r))) | _ => none) = _
  rw [ints_id]
theorem min_ints (x : Int) (l : List Int) : b1 .min (.list ((x :: l).map PyData.int)) = some (.d (.int (minL x l))) := by
  show (match intsL ((x :: l).map PyData.int) with | some (x :: r) => some (TV.d (.int (minL x r))) | _ => none) = _
  rw [ints_id]
theorem flats {l : List D} (h : ∀ x ∈ l, flat x = true) : l.all flat = true := List.all_eq_true.mpr h
theorem in_list (l : List Int) (i : Int) : inOf (.int i) (.list (l.map PyData.int)) = some (decide (i ∈ l)) := by
  have h : (l.map PyData.int).all flat = true := flats fun x hx => by
    obtain ⟨j, _, rfl⟩ := List.mem_map.mp hx
    rfl
  show (if (flat (.int i) && (l.map PyData.int).all flat) = true then some ((l.map PyData.int).any fun y => PyData.eqv y (.int i)) else _) = _
  rw [h, if_pos (by rfl)]
  congr 1
  induction l with
  | nil => rfl
  | cons a l ih =>
    have ih := ih (flats fun x hx => by
      obtain ⟨j, _, rfl⟩ := List.mem_map.mp hx
      rfl)
    rw [List.map_cons, List.any_cons, ih]
    have : PyData.eqv (.int a) (.int i) = decide (a = i) := by simp [PyData.eqv]; try rfl
    rw [this]
    by_cases q : i = a
    · simp [q]
    · simp [q, Ne.symm q]
/-! slots that may be stored into -/
def Free (s : Sl) : Prop := s = .un ∨ ∃ v, s = .val v
theorem sto_free {s : Sl} (h : Free s) (t : Sl) (i : Nat) (r : Ev.Env) : stoK (some s) t i r = .ok () (r.set i t) := by
  rcases h with rfl | ⟨v, rfl⟩ <;> rfl
theorem free_un : Free .un := .inl rfl
theorem free_val (v : D) : Free (.val v) := .inr ⟨v, rfl⟩
theorem idx_natT (xs : List D) (k : Nat) (x : D) (h : xs[k]? = some x) : idx (.tuple xs) (.int k) = some x := by
  have hl := (List.getElem?_eq_some_iff.mp h).1
  show (Ev.ixN xs.length k).bind (fun j => xs[j]?) = some x
  have e : Ev.ixN xs.length (k : Int) = some k := by
    unfold Ev.ixN
    rw [if_pos (Int.natCast_nonneg k), if_pos (Int.ofNat_lt.mpr hl)]
    rfl
  rw [e]
  exact h
theorem idx_natL (xs : List D) (k : Nat) (x : D) (h : xs[k]? = some x) : idx (.list xs) (.int k) = some x := idx_natT xs k x h
theorem idx_last (l : List D) (x : D) : idx (.list (l ++ [x])) (.int (-1)) = some x := by
  show (Ev.ixN (l ++ [x]).length (-1)).bind (fun j => (l ++ [x])[j]?) = some x
  have e : Ev.ixN (l ++ [x]).length (-1) = some l.length := by
    unfold Ev.ixN
    rw [if_neg (by decide), if_pos (by simp; omega)]
    congr 1
    simp
    omega
  rw [e]
  simp
theorem add_lists (a b : List D) (h : a.length + b.length ≤ 1000000) : bop .add (.list a) (.list b) = some (.f (.list (a ++ b))) := by
  rw [bop_lst, if_pos (Nat.le_trans h (by decide))]
theorem add_tups (a b : List D) (h : a.length + b.length ≤ 1000000) : bop .add (.tuple a) (.tuple b) = some (.d (.tuple (a ++ b))) := by
  rw [bop_tup, if_pos (Nat.le_trans h (by decide))]
end Ev

end
section
set_option linter.all false
set_option maxRecDepth 100000
set_option maxHeartbeats 4000000
/-! Comprehensions whose elements are drawn: the frame changes on the way. -/
namespace Ev
open PySem
theorem compL_draw {β : Type} {f : D → Env → Res (List D)} (I : Env → Prop) (Q : β → Prop) (enc : β → D) : ∀ (xs : List D) (r : Env), I r → (∀ x r, I r → ∃ b r', f x r = .ok [enc b] r' ∧ Q b ∧ I r') → ∃ (bs : List β) (r' : Env), compL f xs r = .ok (bs.map enc) r' ∧ bs.length = xs.length ∧ (∀ b ∈ bs, Q b) ∧ I r'
  | [], r, h, _ => ⟨[], r, rfl, rfl, (fun _ h => (nomatch h)), h⟩
  | x :: xs, r, h, hf => by
    obtain ⟨b, r1, e1, q, h1⟩ := hf x r h
    obtain ⟨bs, r2, e2, l2, q2, h2⟩ := compL_draw I Q enc xs r1 h1 hf
    refine ⟨b :: bs, r2, ?_, by rw [List.length_cons, List.length_cons, l2], fun c hc => ?_, h2⟩
    · unfold compL
      rw [e1]
      dsimp only
      rw [e2]
      rfl
    · rcases List.mem_cons.mp hc with rfl | hc
      · exact q
      · exact q2 c hc
theorem e_draw {β : Type} {call : Nat → List Sl → CR} {own : List (Str × Nat)} {elt : IE} {t : IT} {it : II} {c : IO} {r r1 : Env} {xs : List D} (I : Env → Prop) (Q : β → Prop) (enc : β → D) (hi : evI call it r = .ok xs r1) (h0 : I r1)
    (h : ∀ x r, I r → ∃ b r', item call elt t c (own.map (·.2)) x (wipeE (own.map (·.2)) r) = .ok [enc b] r' ∧ Q b ∧ I r') (hl : xs.length ≤ SZ) :
    ∃ (bs : List β) (r2 : Env), (ev call (.cm1 own elt t it c)).1 r = .ok (.f (.list (bs.map enc))) (backE r1 (own.map (·.2)) r2) ∧ bs.length = xs.length ∧ (∀ b ∈ bs, Q b) ∧ I r2 := by
  obtain ⟨bs, r2, e, l, q, i⟩ := compL_draw (f := fun x r2 => (asn t (.d x) (wipeE (own.map Prod.snd) r2)).bind fun _ r3 =>
          (evT call c r3).bind fun ok r4 => match ok with
            | true => ((ev call elt).1 r4).bind fun y r5 => (solidR r5 y).bind fun v r6 => .ok [v] r6
            | false => .ok [] r4) I Q enc xs r1 h0 fun x r hr => by
    obtain ⟨b, r', e1, e2⟩ := h x r hr
    refine ⟨b, r', ?_, e2⟩
    rw [← e1]
    unfold item
    congr; funext _ r3; congr; funext ok r4; cases ok <;> rfl
  refine ⟨bs, r2, ?_, l, q, i⟩
  show (evI call it r).bind _ = _
  rw [hi]
  exact (show ∀ m, m = Res.ok (bs.map enc) r2 → (match m with
      | .ok ys r2 => if ys.length ≤ SZ then Res.ok (TV.f (.list ys)) (backE r1 (own.map Prod.snd) r2) else .stuck
      | _ => .stuck) = Res.ok (TV.f (.list (bs.map enc))) (backE r1 (own.map Prod.snd) r2) from fun m hm => by
    subst hm
    dsimp only
    rw [if_pos (by rw [List.length_map, l]; exact hl)]) _ e
end Ev

end
section
set_option linter.all false
set_option maxRecDepth 100000
set_option maxHeartbeats 0
namespace K41
open PySem PySem.Spec PyProof.Rows L2 Ev
def kc : Cat := ⟨some (.str ""), [("InvalidParagraph", .str "paragraph"), ("InvalidCosts", .str "costs"), ("InvalidKey", .str "key"), ("InvalidLot", .str "lot")]⟩
def f0 : Df := ⟨"is_whole", ["value", "low", "high"], 3, (.cons (.ret (.and (.isi (.var 0) .int) (.and (.not (.isi (.var 0) .bool)) (.chn .le .le (.var 1) (.var 0) (.var 2))))) .nil)⟩
def f1 : Df := ⟨"is_row_of", ["value", "low", "high"], 3, (.cons (.ret (.and (.isi (.var 0) .tuple) (.chn .le .le (.var 1) (.bl1 .len (.var 0)) (.var 2)))) .nil)⟩
def f2 : Df := ⟨"fits_price", ["value"], 1, (.cons (.ret (.or (.cmp .is (.var 0) (.cst .none)) (.call 0 "is_whole" (.cons (.var 0) (.cons (.neg (.glob "DEAR_paragraphs" (.int 1000000000))) (.cons (.glob "DEAR_paragraphs" (.int 1000000000)) .nil)))))) .nil)⟩
def f3_c0 : IE := .cm1 [("one", 3)] (.call 0 "is_whole" (.cons (.var 3) (.cons (.cst (.int 0)) (.cons (.glob "LONG" (.int 1000)) .nil)))) (.n 3 false) (.val (.slc (.var 0) (.yes (.cst (.int 1))) .no)) .no
def f3_c1 : IE := .cm1 [("one", 3)] (.call 0 "is_whole" (.cons (.var 3) (.cons (.cst (.int 0)) (.cons (.glob "LONG" (.int 1000)) .nil)))) (.n 3 false) (.val (.slc (.var 0) (.yes (.cst (.int 2))) .no)) .no
def f3_c2 : IE := .cm1 [("one", 3)] (.call 0 "is_whole" (.cons (.var 3) (.cons (.cst (.int 0)) (.cons (.glob "LONG" (.int 1000)) .nil)))) (.n 3 false) (.val (.slc (.var 0) (.yes (.cst (.int 3))) .no)) .no
def f3 : Df := ⟨"fits_item", ["value", "is_open", "is_priced", "one"], 1, (.cons (.ifs (.or (.not (.call 1 "is_row_of" (.cons (.var 0) (.cons (.cst (.int 1)) (.cons (.cst (.int 6)) .nil))))) (.or (.not (.isi (.idx (.var 0) (.cst (.int 0))) .str)) (.cmp .ne (.kg2 "SIZES" [("box", (.int 2)), ("gap", (.int 4)), ("place", (.int 6)), ("end", (.int 1))] (.idx (.var 0) (.cst (.int 0))) (.cst (.int 0))) (.bl1 .len (.var 0))))) (.cons (.ret (.cst (.bool false))) .nil) .nil) (.cons (.ifs (.cmp .eq (.idx (.var 0) (.cst (.int 0))) (.cst (.str "place"))) (.cons (.asg (.n 1 false) (.or (.cmp .isNot (.idx (.var 0) (.cst (.int 1))) (.cst .none)) (.cmp .isNot (.idx (.var 0) (.cst (.int 2))) (.cst .none)))) (.cons (.asg (.n 2 false) (.and (.var 1) (.and (.call 2 "fits_price" (.cons (.idx (.var 0) (.cst (.int 1))) .nil)) (.call 2 "fits_price" (.cons (.idx (.var 0) (.cst (.int 2))) .nil))))) (.cons (.ret (.and (.var 2) (.bl1 .all f3_c2))) .nil))) .nil) (.cons (.ifs (.cmp .eq (.idx (.var 0) (.cst (.int 0))) (.cst (.str "gap"))) (.cons (.ret (.and (.call 0 "is_whole" (.cons (.idx (.var 0) (.cst (.int 1))) (.cons (.neg (.glob "LONG" (.int 1000))) (.cons (.glob "LONG" (.int 1000)) .nil)))) (.bl1 .all f3_c1))) .nil) .nil) (.cons (.ret (.bl1 .all f3_c0)) .nil))))⟩
def f4_c0 : IE := .cm1 [("item", 1)] (.call 3 "fits_item" (.cons (.var 1) .nil)) (.n 1 false) (.val (.var 0)) .no
def f4 : Df := ⟨"fits_paragraph", ["value", "item"], 1, (.cons (.ret (.and (.call 1 "is_row_of" (.cons (.var 0) (.cons (.cst (.int 0)) (.cons (.glob "ITEMS" (.int 60)) .nil)))) (.bl1 .all f4_c0))) .nil)⟩
def f5_c0 : IE := .cm1 [("one", 1)] (.call 0 "is_whole" (.cons (.var 1) (.cons (.cst (.int 0)) (.cons (.glob "LONG" (.int 1000)) .nil)))) (.n 1 false) (.val (.bin .add (.slc (.var 0) (.yes (.cst (.int 1))) (.yes (.cst (.int 4)))) (.idx (.var 0) (.cst (.int 4))))) .no
def f5_c1 : IE := .cm1 [("one", 1)] (.call 0 "is_whole" (.cons (.var 1) (.cons (.cst (.int 10)) (.cons (.glob "LONG" (.int 1000)) .nil)))) (.n 1 false) (.val (.idx (.var 0) (.cst (.int 0)))) .no
def f5 : Df := ⟨"fits_costs", ["value", "one"], 1, (.cons (.ifs (.or (.not (.call 1 "is_row_of" (.cons (.var 0) (.cons (.cst (.int 5)) (.cons (.cst (.int 5)) .nil))))) (.or (.not (.call 1 "is_row_of" (.cons (.idx (.var 0) (.cst (.int 0))) (.cons (.cst (.int 1)) (.cons (.cst (.int 8)) .nil))))) (.not (.call 1 "is_row_of" (.cons (.idx (.var 0) (.cst (.int 4))) (.cons (.cst (.int 2)) (.cons (.cst (.int 2)) .nil))))))) (.cons (.ret (.cst (.bool false))) .nil) .nil) (.cons (.ifs (.not (.bl1 .all f5_c1)) (.cons (.ret (.cst (.bool false))) .nil) .nil) (.cons (.ret (.bl1 .all f5_c0)) .nil)))⟩
def f6 : Df := ⟨"need_paragraph", ["value"], 1, (.cons (.ifx (.not (.call 4 "fits_paragraph" (.cons (.var 0) .nil))) (.cons (.rai "InvalidParagraph") .nil) .nil) .nil)⟩
def f7 : Df := ⟨"need_costs", ["value"], 1, (.cons (.ifx (.not (.call 5 "fits_costs" (.cons (.var 0) .nil))) (.cons (.rai "InvalidCosts") .nil) .nil) .nil)⟩
def f8_b0 : IB := (.cons (.asg (.n 2 false) (.bin .add (.var 2) (.cst (.int 1)))) .nil)
def f8_l0 : IS := .whl (.and (.cmp .lt (.var 2) (.bl1 .len (.var 0))) (.cmp .eq (.idx (.idx (.var 0) (.var 2)) (.cst (.int 0))) (.cst (.str "gap")))) f8_b0
def f8 : Df := ⟨"first_item", ["paragraph", "start", "at"], 2, (.cons (.asg (.n 2 false) (.bin .add (.var 1) (.cst (.int 1)))) (.cons (.ifs (.and (.cmp .ge (.var 1) (.cst (.int 0))) (.cmp .eq (.idx (.idx (.var 0) (.var 1)) (.cst (.int 0))) (.cst (.str "place")))) (.cons f8_l0 .nil) .nil) (.cons (.ret (.var 2)) .nil)))⟩
def f9_b0 : IB := (.cons (.asg (.n 7 false) (.idx (.var 0) (.var 6))) (.cons (.ifs (.cmp .eq (.idx (.var 7) (.cst (.int 0))) (.cst (.str "gap"))) (.cons (.asp [(.n 3 false), (.n 4 false), (.n 5 false)] (.cons (.bin .add (.var 3) (.idx (.var 7) (.cst (.int 1)))) (.cons (.bin .add (.var 4) (.idx (.var 7) (.cst (.int 2)))) (.cons (.bin .add (.var 5) (.idx (.var 7) (.cst (.int 3)))) .nil)))) .nil) (.cons (.ifs (.cmp .ne (.idx (.var 7) (.cst (.int 0))) (.cst (.str "end"))) (.cons (.asg (.n 3 false) (.bin .add (.var 3) (.ife (.cmp .eq (.idx (.var 7) (.cst (.int 0))) (.cst (.str "box"))) (.idx (.var 7) (.cst (.int 1))) (.idx (.var 7) (.cst (.int 5)))))) .nil) .nil) .nil)) .nil))
def f9_l0 : IS := .fr (.n 6 false) (.rg2 (.call 8 "first_item" (.cons (.var 0) (.cons (.var 1) .nil))) (.var 2)) f9_b0
def f9 : Df := ⟨"line_sums", ["paragraph", "start", "stop", "natural", "stretch", "shrink", "at", "item"], 3, (.cons (.asp [(.n 3 false), (.n 4 false), (.n 5 false)] (.cons (.cst (.int 0)) (.cons (.cst (.int 0)) (.cons (.cst (.int 0)) .nil)))) (.cons (.ifs (.and (.cmp .ge (.var 1) (.cst (.int 0))) (.cmp .eq (.idx (.idx (.var 0) (.var 1)) (.cst (.int 0))) (.cst (.str "place")))) (.cons (.asg (.n 3 false) (.idx (.idx (.var 0) (.var 1)) (.cst (.int 4)))) .nil) .nil) (.cons f9_l0 (.cons (.ifs (.and (.cmp .lt (.var 2) (.bl1 .len (.var 0))) (.cmp .eq (.idx (.idx (.var 0) (.var 2)) (.cst (.int 0))) (.cst (.str "place")))) (.cons (.asg (.n 3 false) (.bin .add (.var 3) (.idx (.idx (.var 0) (.var 2)) (.cst (.int 3))))) .nil) .nil) (.cons (.ret (.tup (.cons (.var 3) (.cons (.var 4) (.cons (.var 5) .nil))))) .nil)))))⟩
def f10 : Df := ⟨"is_last", ["paragraph", "stop"], 2, (.cons (.ret (.or (.cmp .eq (.var 1) (.bl1 .len (.var 0))) (.cmp .eq (.idx (.idx (.var 0) (.var 1)) (.cst (.int 0))) (.cst (.str "end"))))) .nil)⟩
def f11 : Df := ⟨"fit_of", ["paragraph", "costs", "start", "stop", "lines", "natural", "stretch", "shrink", "free", "worst"], 5, (.cons (.asg (.t [(.n 5 false), (.n 6 false), (.n 7 false)]) (.call 9 "line_sums" (.cons (.var 0) (.cons (.var 2) (.cons (.var 3) .nil))))) (.cons (.asg (.n 8 false) (.bin .sub (.idx (.idx (.var 1) (.cst (.int 0))) (.bl2 .min (.var 4) (.bin .sub (.bl1 .len (.idx (.var 1) (.cst (.int 0)))) (.cst (.int 1))))) (.var 5))) (.cons (.ifs (.cmp .lt (.bin .add (.var 8) (.var 7)) (.cst (.int 0))) (.cons (.ret (.cst .none)) .nil) .nil) (.cons (.ifs (.and (.cmp .ge (.var 8) (.cst (.int 0))) (.call 10 "is_last" (.cons (.var 0) (.cons (.var 3) .nil)))) (.cons (.ret (.tup (.cons (.cst (.int 2)) (.cons (.cst (.int 0)) .nil)))) .nil) .nil) (.cons (.ifs (.cmp .lt (.var 8) (.cst (.int 0))) (.cons (.ret (.tup (.cons (.ife (.cmp .gt (.bin .mul (.neg (.cst (.int 2))) (.var 8)) (.var 7)) (.cst (.int 3)) (.cst (.int 2))) (.cons (.bin .div (.bin .mul (.bin .mul (.cst (.int 100)) (.var 8)) (.var 8)) (.bin .mul (.var 7) (.var 7))) .nil)))) .nil) .nil) (.cons (.asg (.n 9 false) (.ife (.cmp .eq (.var 8) (.cst (.int 0))) (.cst (.int 0)) (.ife (.cmp .eq (.var 6) (.cst (.int 0))) (.glob "WORST" (.int 10000)) (.bl2 .min (.glob "WORST" (.int 10000)) (.bin .div (.bin .mul (.bin .mul (.cst (.int 100)) (.var 8)) (.var 8)) (.bin .mul (.var 6) (.var 6))))))) (.cons (.ret (.tup (.cons (.ife (.cmp .gt (.var 8) (.var 6)) (.cst (.int 0)) (.ife (.cmp .gt (.bin .mul (.cst (.int 2)) (.var 8)) (.var 6)) (.cst (.int 1)) (.cst (.int 2)))) (.cons (.var 9) .nil)))) .nil)))))))⟩
def f12_c0 : IE := .cm1 [("pair", 3)] (.var 3) (.n 3 false) (.val (.var 2)) (.yes (.cmp .isNot (.idx (.var 3) (.cst (.int 1))) (.cst .none)))
def f12 : Df := ⟨"taken_at", ["paragraph", "stop", "prices", "pair"], 2, (.cons (.ifs (.call 10 "is_last" (.cons (.var 0) (.cons (.var 1) .nil))) (.cons (.ret (.lst (.cons (.tup (.cons (.cst (.str "plain")) (.cons (.cst (.int 0)) .nil))) .nil))) .nil) .nil) (.cons (.asg (.n 2 false) (.lst (.cons (.tup (.cons (.cst (.str "plain")) (.cons (.idx (.idx (.var 0) (.var 1)) (.cst (.int 1))) .nil))) (.cons (.tup (.cons (.cst (.str "marked")) (.cons (.idx (.idx (.var 0) (.var 1)) (.cst (.int 2))) .nil))) .nil)))) (.cons (.ret f12_c0) .nil)))⟩
def f13_b0 : IB := (.cons (.asg (.n 15 false) (.bin .add (.bin .mul (.idx (.var 1) (.cst (.int 1))) (.idx (.var 10) (.cst (.int 1)))) (.var 14))) (.cons (.ifs (.and (.cmp .isNot (.var 8) (.cst .none)) (.cmp .ge (.bl1 .abs (.bin .sub (.var 8) (.idx (.var 10) (.cst (.int 0))))) (.cst (.int 2)))) (.cons (.asg (.n 15 false) (.bin .add (.var 15) (.idx (.var 1) (.cst (.int 2))))) .nil) .nil) (.cons (.ifs (.and (.cmp .eq (.var 9) (.cst (.str "marked"))) (.cmp .eq (.var 13) (.cst (.str "marked")))) (.cons (.asg (.n 15 false) (.bin .add (.var 15) (.idx (.var 1) (.cst (.int 3))))) .nil) .nil) (.cons (.asg (.n 16 false) (.bin .add (.var 6) (.ife (.var 12) (.tup (.cons (.tup (.cons (.var 3) (.cons (.var 13) .nil))) .nil)) (.tup .nil)))) (.cons (.asg (.n 11 false) (.bin .add (.var 11) (.lst (.cons (.tup (.cons (.var 3) (.cons (.bin .add (.var 5) (.var 15)) (.cons (.var 16) (.cons (.bin .add (.var 7) (.cst (.int 1))) (.cons (.idx (.var 10) (.cst (.int 0))) (.cons (.var 13) .nil))))))) .nil)))) .nil)))))
def f13_l0 : IS := .fr (.t [(.n 13 false), (.n 14 false)]) (.val (.call 12 "taken_at" (.cons (.var 0) (.cons (.var 3) .nil)))) f13_b0
def f13 : Df := ⟨"led_on", ["paragraph", "costs", "entry", "stop", "start", "cost", "way", "lines", "tight", "mark", "fit", "found", "is_place", "name", "price", "more", "later"], 4, (.cons (.asg (.t [(.n 4 false), (.n 5 false), (.n 6 false), (.n 7 false), (.n 8 false), (.n 9 false)]) (.var 2)) (.cons (.asg (.n 10 false) (.call 11 "fit_of" (.cons (.var 0) (.cons (.var 1) (.cons (.var 4) (.cons (.var 3) (.cons (.var 7) .nil))))))) (.cons (.ifs (.cmp .is (.var 10) (.cst .none)) (.cons (.ret (.lst .nil)) .nil) .nil) (.cons (.asp [(.n 11 false), (.n 12 false)] (.cons (.lst .nil) (.cons (.not (.call 10 "is_last" (.cons (.var 0) (.cons (.var 3) .nil)))) .nil))) (.cons f13_l0 (.cons (.ret (.var 11)) .nil))))))⟩
def f14_c0 : IE := .cm1 [("at", 1)] (.var 1) (.n 1 false) (.rg1 (.bl1 .len (.var 0))) (.yes (.cmp .inn (.idx (.idx (.var 0) (.var 1)) (.cst (.int 0))) (.tup (.cons (.cst (.str "place")) (.cons (.cst (.str "end")) .nil)))))
def f14 : Df := ⟨"stops_of", ["paragraph", "at"], 1, (.cons (.ret (.bin .add f14_c0 (.lst (.cons (.bl1 .len (.var 0)) .nil)))) .nil)⟩
def f15_c0 : IE := .cm1 [("at", 3)] (.var 3) (.n 3 false) (.rg1 (.var 1)) (.yes (.cmp .eq (.idx (.idx (.var 0) (.var 3)) (.cst (.int 0))) (.cst (.str "end"))))
def f15 : Df := ⟨"last_end", ["paragraph", "stop", "ends", "at"], 2, (.cons (.asg (.n 2 false) f15_c0) (.cons (.ret (.ife (.cmp .ne (.var 2) (.lst .nil)) (.idx (.var 2) (.neg (.cst (.int 1)))) (.neg (.cst (.int 1))))) .nil))⟩
def f16_b0 : IB := (.cons (.ifs (.cmp .notIn (.var 6) (.var 4)) (.cons (.asp [(.n 4 false), (.n 3 false)] (.cons (.bin .add (.var 4) (.lst (.cons (.var 6) .nil))) (.cons (.bin .add (.var 3) (.lst (.cons (.var 5) .nil))) .nil))) .nil) .nil) .nil)
def f16_l0 : IS := .fr (.t [(.n 6 false), (.n 7 false), (.n 8 false), (.n 5 false)]) (.val (.un .srt (.var 2))) f16_b0
def f16_b1 : IB := (.cons (.asg (.n 9 false) (.ife (.cmp .is (.idx (.var 0) (.cst (.int 0))) (.cst .none)) (.idx (.var 5) (.cst (.int 3))) (.bl2 .min (.idx (.var 5) (.cst (.int 3))) (.idx (.var 0) (.cst (.int 0)))))) (.cons (.asg (.n 6 false) (.tup (.cons (.var 9) (.cons (.ife (.idx (.var 0) (.cst (.int 1))) (.idx (.var 5) (.cst (.int 4))) (.cst (.int 0))) (.cons (.ife (.idx (.var 0) (.cst (.int 2))) (.idx (.var 5) (.cst (.int 5))) (.cst (.str ""))) .nil))))) (.cons (.asg (.n 2 false) (.bin .add (.var 2) (.lst (.cons (.tup (.cons (.var 6) (.cons (.idx (.var 5) (.cst (.int 1))) (.cons (.idx (.var 5) (.cst (.int 2))) (.cons (.var 5) .nil))))) .nil)))) .nil)))
def f16_l1 : IS := .fr (.n 5 false) (.val (.var 1)) f16_b1
def f16 : Df := ⟨"kept_by", ["key", "entries", "rows", "found", "seen", "entry", "told", "cost", "way", "lines"], 2, (.cons (.asp [(.n 2 false), (.n 3 false), (.n 4 false)] (.cons (.lst .nil) (.cons (.lst .nil) (.cons (.lst .nil) .nil)))) (.cons f16_l1 (.cons f16_l0 (.cons (.ret (.var 3)) .nil))))⟩
def f17_b0 : IB := (.cons (.ifs (.cmp .ge (.idx (.var 7) (.cst (.int 0))) (.var 6)) (.cons (.asg (.n 4 false) (.bin .add (.var 4) (.call 13 "led_on" (.cons (.var 0) (.cons (.var 1) (.cons (.var 7) (.cons (.var 5) .nil))))))) .nil) .nil) .nil)
def f17_l0 : IS := .fr (.n 7 false) (.val (.var 3)) f17_b0
def f17_b1 : IB := (.cons (.asp [(.n 6 false), (.n 4 false)] (.cons (.call 15 "last_end" (.cons (.var 0) (.cons (.var 5) .nil))) (.cons (.lst .nil) .nil))) (.cons f17_l0 (.cons (.ifs (.cmp .lt (.var 5) (.bl1 .len (.var 0))) (.cons (.asg (.n 3 false) (.bin .add (.var 3) (.call 16 "kept_by" (.cons (.var 2) (.cons (.var 4) .nil))))) .nil) .nil) .nil)))
def f17_l1 : IS := .fr (.n 5 false) (.val (.call 14 "stops_of" (.cons (.var 0) .nil))) f17_b1
def f17 : Df := ⟨"kept_at_all", ["paragraph", "costs", "key", "kept", "entries", "stop", "first", "entry"], 3, (.cons (.asp [(.n 3 false), (.n 4 false)] (.cons (.lst (.cons (.tup (.cons (.neg (.cst (.int 1))) (.cons (.cst (.int 0)) (.cons (.tup .nil) (.cons (.cst (.int 0)) (.cons (.cst .none) (.cons (.cst (.str "plain")) .nil))))))) .nil)) (.cons (.lst .nil) .nil))) (.cons f17_l1 (.cons (.ret (.tup (.cons (.slc (.var 3) (.yes (.cst (.int 1))) .no) (.cons (.var 4) .nil)))) .nil)))⟩
def f18 : Df := ⟨"wished", ["costs", "lines"], 2, (.cons (.ret (.bin .mul (.idx (.idx (.var 0) (.cst (.int 4))) (.cst (.int 1))) (.bl1 .abs (.bin .sub (.var 1) (.idx (.idx (.var 0) (.cst (.int 4))) (.cst (.int 0))))))) .nil)⟩
def f19_c0 : IE := .cm1 [("entry", 3)] (.tup (.cons (.bin .add (.idx (.var 3) (.cst (.int 1))) (.call 18 "wished" (.cons (.var 0) (.cons (.idx (.var 3) (.cst (.int 3))) .nil)))) (.cons (.idx (.var 3) (.cst (.int 2))) .nil))) (.n 3 false) (.val (.var 1)) .no
def f19 : Df := ⟨"cheapest", ["costs", "entries", "pairs", "entry"], 2, (.cons (.asg (.n 2 false) (.un .srt f19_c0)) (.cons (.ret (.ife (.cmp .ne (.var 2) (.lst .nil)) (.idx (.var 2) (.cst (.int 0))) (.cst .none))) .nil))⟩
def f20 : Df := ⟨"least_pair", ["paragraph", "costs"], 2, (.cons (.ret (.call 19 "cheapest" (.cons (.var 1) (.cons (.idx (.call 17 "kept_at_all" (.cons (.var 0) (.cons (.var 1) (.cons (.glob "FULL" (.tuple [.none, (.bool true), (.bool true)])) .nil)))) (.cst (.int 1))) .nil)))) .nil)⟩
def f21_c0 : IE := .cm1 [("entry", 3)] (.tup (.cons (.tup (.cons (.idx (.var 3) (.cst (.int 0))) (.cons (.idx (.var 3) (.cst (.int 3))) (.cons (.idx (.var 3) (.cst (.int 4))) (.cons (.idx (.var 3) (.cst (.int 5))) .nil))))) (.cons (.idx (.var 3) (.cst (.int 1))) .nil))) (.n 3 false) (.val (.var 2)) .no
def f21 : Df := ⟨"states_of", ["paragraph", "costs", "kept", "entry"], 2, (.cons (.asg (.n 2 false) (.idx (.call 17 "kept_at_all" (.cons (.var 0) (.cons (.var 1) (.cons (.glob "FULL" (.tuple [.none, (.bool true), (.bool true)])) .nil)))) (.cst (.int 0)))) (.cons (.ret (.un .dts f21_c0)) .nil))⟩
def f22_c0 : IE := .cm1 [("one", 2)] (.call 0 "is_whole" (.cons (.var 2) (.cons (.neg (.glob "HUGE" (.int 10000000000000000000000000000000000000000000000000000000000000000000000000000000000000000000000000000))) (.cons (.glob "HUGE" (.int 10000000000000000000000000000000000000000000000000000000000000000000000000000000000000000000000000000)) .nil)))) (.n 2 false) (.val (.bin .add (.slc (.var 1) .no (.yes (.cst (.int 3)))) (.slc (.var 1) (.yes (.cst (.int 4))) .no))) .no
def f22_b0 : IB := (.cons (.ifs (.or (.not (.call 1 "is_row_of" (.cons (.var 1) (.cons (.cst (.int 5)) (.cons (.cst (.int 5)) .nil))))) (.not (.isi (.idx (.var 1) (.cst (.int 3))) .str))) (.cons (.ret (.cst (.bool false))) .nil) .nil) (.cons (.ifs (.not (.bl1 .all f22_c0)) (.cons (.ret (.cst (.bool false))) .nil) .nil) .nil))
def f22_l0 : IS := .fr (.n 1 false) (.val (.idx (.var 0) (.cst (.int 1)))) f22_b0
def f22 : Df := ⟨"fits_prices", ["value", "row", "one"], 1, (.cons (.ifs (.or (.not (.call 1 "is_row_of" (.cons (.var 0) (.cons (.cst (.int 2)) (.cons (.cst (.int 2)) .nil))))) (.not (.call 0 "is_whole" (.cons (.idx (.var 0) (.cst (.int 0))) (.cons (.neg (.glob "HUGE" (.int 10000000000000000000000000000000000000000000000000000000000000000000000000000000000000000000000000000))) (.cons (.glob "HUGE" (.int 10000000000000000000000000000000000000000000000000000000000000000000000000000000000000000000000000000)) .nil)))))) (.cons (.ret (.cst (.bool false))) .nil) .nil) (.cons (.ifs (.not (.isi (.idx (.var 0) (.cst (.int 1))) .tuple)) (.cons (.ret (.cst (.bool false))) .nil) .nil) (.cons f22_l0 (.cons (.ret (.cst (.bool true))) .nil))))⟩
def f23_c0 : IE := .cm1 [("one", 12)] (.var 12) (.n 12 false) (.val (.var 6)) (.yes (.chn .le .lt (.var 8) (.idx (.var 12) (.cst (.int 0))) (.var 7)))
def f23_b0 : IB := (.cons (.asg (.n 13 false) (.ife (.cmp .eq (.var 7) (.bl1 .len (.var 0))) (.bin .sub (.var 3) (.call 18 "wished" (.cons (.var 1) (.cons (.idx (.var 10) (.cst (.int 3))) .nil)))) (.dix (.var 5) (.bin .add (.tup (.cons (.var 7) .nil)) (.slc (.var 10) (.yes (.cst (.int 3))) .no))))) (.cons (.ifs (.cmp .gt (.var 13) (.idx (.var 10) (.cst (.int 1)))) (.cons (.ret (.cst (.bool false))) .nil) .nil) .nil))
def f23_l0 : IS := .fr (.n 10 false) (.val (.call 13 "led_on" (.cons (.var 0) (.cons (.var 1) (.cons (.var 9) (.cons (.var 7) .nil)))))) f23_b0
def f23_b1 : IB := (.cons f23_l0 .nil)
def f23_l1 : IS := .fr (.n 9 false) (.val f23_c0) f23_b1
def f23_b2 : IB := (.cons (.asg (.n 8 false) (.call 15 "last_end" (.cons (.var 0) (.cons (.var 7) .nil)))) (.cons f23_l1 .nil))
def f23_l2 : IS := .fr (.n 7 false) (.val (.call 14 "stops_of" (.cons (.var 0) .nil))) f23_b2
def f23_c1 : IE := .cm1 [("row", 11)] (.tup (.cons (.idx (.var 11) (.cst (.int 0))) (.cons (.idx (.var 11) (.cst (.int 4))) (.cons (.tup .nil) (.cons (.idx (.var 11) (.cst (.int 1))) (.cons (.idx (.var 11) (.cst (.int 2))) (.cons (.idx (.var 11) (.cst (.int 3))) .nil))))))) (.n 11 false) (.val (.var 4)) .no
def f23_c2 : IE := .cm1 [("row", 11)] (.slc (.var 11) .no (.yes (.cst (.int 4)))) (.n 11 false) (.val (.var 4)) .no
def f23_c3 : IE := .cm1 [("row", 11)] (.tup (.cons (.slc (.var 11) .no (.yes (.cst (.int 4)))) (.cons (.idx (.var 11) (.cst (.int 4))) .nil))) (.n 11 false) (.val (.var 4)) .no
def f23 : Df := ⟨"are_prices", ["paragraph", "costs", "value", "least", "rows", "prices", "entries", "stop", "first", "entry", "later", "row", "one", "told"], 3, (.cons (.ifs (.not (.call 22 "fits_prices" (.cons (.var 2) .nil))) (.cons (.ret (.cst (.bool false))) .nil) .nil) (.cons (.asg (.t [(.n 3 false), (.n 4 false)]) (.var 2)) (.cons (.asg (.n 5 false) (.un .dts f23_c3)) (.cons (.ifs (.cmp .ne f23_c2 (.un .srt (.un .lks (.call 21 "states_of" (.cons (.var 0) (.cons (.var 1) .nil)))))) (.cons (.ret (.cst (.bool false))) .nil) .nil) (.cons (.asg (.n 6 false) (.bin .add f23_c1 (.lst (.cons (.tup (.cons (.neg (.cst (.int 1))) (.cons (.cst (.int 0)) (.cons (.tup .nil) (.cons (.cst (.int 0)) (.cons (.cst .none) (.cons (.cst (.str "plain")) .nil))))))) .nil)))) (.cons f23_l2 (.cons (.ret (.cst (.bool true))) .nil)))))))⟩
def f24 : Df := ⟨"least_way", ["paragraph", "costs", "found"], 2, (.cons (.exx 6 "need_paragraph" (.cons (.var 0) .nil)) (.cons (.exx 7 "need_costs" (.cons (.var 1) .nil)) (.cons (.qt (.asg (.n 2 false) (.call 20 "least_pair" (.cons (.var 0) (.cons (.var 1) .nil))))) (.cons (.qt (.ret (.ife (.cmp .is (.var 2) (.cst .none)) (.cst .none) (.idx (.var 2) (.cst (.int 1)))))) .nil))))⟩
def f25_c0 : IE := .cm1 [("state", 4)] (.bin .add (.var 4) (.tup (.cons (.dix (.var 3) (.var 4)) .nil))) (.n 4 false) (.val (.un .srt (.un .lks (.var 3)))) .no
def f25 : Df := ⟨"price_paper", ["paragraph", "costs", "found", "states", "state"], 2, (.cons (.exx 6 "need_paragraph" (.cons (.var 0) .nil)) (.cons (.exx 7 "need_costs" (.cons (.var 1) .nil)) (.cons (.qt (.asp [(.n 2 false), (.n 3 false)] (.cons (.call 20 "least_pair" (.cons (.var 0) (.cons (.var 1) .nil))) (.cons (.call 21 "states_of" (.cons (.var 0) (.cons (.var 1) .nil))) .nil)))) (.cons (.qt (.ifs (.cmp .is (.var 2) (.cst .none)) (.cons (.ret (.cst .none)) .nil) .nil)) (.cons (.qt (.ret (.tup (.cons (.idx (.var 2) (.cst (.int 0))) (.cons (.bl1 .tuple f25_c0) .nil))))) .nil)))))⟩
def f26 : Df := ⟨"is_price_paper", ["paragraph", "costs", "value"], 3, (.cons (.exx 6 "need_paragraph" (.cons (.var 0) .nil)) (.cons (.exx 7 "need_costs" (.cons (.var 1) .nil)) (.cons (.qt (.ret (.call 23 "are_prices" (.cons (.var 0) (.cons (.var 1) (.cons (.var 2) .nil)))))) .nil)))⟩
def f27 : Df := ⟨"fits_key", ["value"], 1, (.cons (.ifs (.or (.not (.call 1 "is_row_of" (.cons (.var 0) (.cons (.cst (.int 3)) (.cons (.cst (.int 3)) .nil))))) (.or (.not (.isi (.idx (.var 0) (.cst (.int 1))) .bool)) (.not (.isi (.idx (.var 0) (.cst (.int 2))) .bool)))) (.cons (.ret (.cst (.bool false))) .nil) .nil) (.cons (.ret (.or (.cmp .is (.idx (.var 0) (.cst (.int 0))) (.cst .none)) (.call 0 "is_whole" (.cons (.idx (.var 0) (.cst (.int 0))) (.cons (.cst (.int 0)) (.cons (.glob "CAP" (.int 8)) .nil)))))) .nil))⟩
def f28 : Df := ⟨"need_key", ["value"], 1, (.cons (.ifx (.not (.call 27 "fits_key" (.cons (.var 0) .nil))) (.cons (.rai "InvalidKey") .nil) .nil) .nil)⟩
def f29 : Df := ⟨"width_at", ["costs", "lines"], 2, (.cons (.ret (.idx (.idx (.var 0) (.cst (.int 0))) (.bl2 .min (.var 1) (.bin .sub (.bl1 .len (.idx (.var 0) (.cst (.int 0)))) (.cst (.int 1)))))) .nil)⟩
def f30_b0 : IB := (.cons (.asg (.n 1 false) (.bin .sub (.var 1) (.cst (.int 1)))) .nil)
def f30_l0 : IS := .whl (.and (.cmp .gt (.var 1) (.cst (.int 0))) (.cmp .eq (.idx (.idx (.var 0) (.cst (.int 0))) (.bin .sub (.var 1) (.cst (.int 1)))) (.idx (.idx (.var 0) (.cst (.int 0))) (.neg (.cst (.int 1)))))) f30_b0
def f30 : Df := ⟨"alike_from", ["costs", "at"], 1, (.cons (.asg (.n 1 false) (.bin .sub (.bl1 .len (.idx (.var 0) (.cst (.int 0)))) (.cst (.int 1)))) (.cons f30_l0 (.cons (.ret (.var 1)) .nil)))⟩
def f31 : Df := ⟨"is_good_key", ["costs", "key"], 2, (.cons (.ifs (.or (.and (.cmp .gt (.idx (.var 0) (.cst (.int 2))) (.cst (.int 0))) (.not (.idx (.var 1) (.cst (.int 1))))) (.and (.cmp .gt (.idx (.var 0) (.cst (.int 3))) (.cst (.int 0))) (.not (.idx (.var 1) (.cst (.int 2)))))) (.cons (.ret (.cst (.bool false))) .nil) .nil) (.cons (.ret (.or (.cmp .is (.idx (.var 1) (.cst (.int 0))) (.cst .none)) (.and (.cmp .eq (.idx (.idx (.var 0) (.cst (.int 4))) (.cst (.int 1))) (.cst (.int 0))) (.cmp .ge (.bl2 .max (.idx (.var 1) (.cst (.int 0))) (.cst (.int 1))) (.call 30 "alike_from" (.cons (.var 0) .nil)))))) .nil))⟩
def f32 : Df := ⟨"plain_place", ["price", "ahead", "behind"], 3, (.cons (.ret (.tup (.cons (.cst (.str "place")) (.cons (.var 0) (.cons (.cst .none) (.cons (.var 1) (.cons (.var 2) (.cons (.cst (.int 0)) .nil)))))))) .nil)⟩
def f33_c0 : IE := .cm1 [("lines", 6)] (.call 29 "width_at" (.cons (.var 0) (.cons (.var 6) .nil))) (.n 6 false) (.val (.tup (.cons (.cst (.int 0)) (.cons (.cst (.int 1)) (.cons (.cst (.int 2)) .nil))))) .no
def f33 : Df := ⟨"parted_by_tightness", ["costs", "first", "second", "third", "rest", "found", "lines"], 1, (.cons (.asg (.t [(.n 1 false), (.n 2 false), (.n 3 false)]) f33_c0) (.cons (.asg (.n 4 false) (.tup (.cons (.tup (.cons (.cst (.str "box")) (.cons (.bin .sub (.var 2) (.cst (.int 2))) .nil))) (.cons (.tup (.cons (.cst (.str "gap")) (.cons (.cst (.int 0)) (.cons (.cst (.int 1)) (.cons (.cst (.int 0)) .nil))))) (.cons (.call 32 "plain_place" (.cons (.cst (.int 0)) (.cons (.cst (.int 0)) (.cons (.cst (.int 0)) .nil)))) (.cons (.tup (.cons (.cst (.str "box")) (.cons (.var 3) .nil))) .nil)))))) (.cons (.asg (.n 5 false) (.bin .add (.tup (.cons (.tup (.cons (.cst (.str "box")) (.cons (.var 1) .nil))) (.cons (.call 32 "plain_place" (.cons (.bin .sub (.bin .sub (.glob "DEAR_linekeys" (.int 100000000)) (.bin .mul (.cst (.int 400)) (.idx (.var 0) (.cst (.int 1))))) (.idx (.var 0) (.cst (.int 2)))) (.cons (.cst (.int 0)) (.cons (.cst (.int 0)) .nil)))) (.cons (.call 32 "plain_place" (.cons (.glob "DEAR_linekeys" (.int 100000000)) (.cons (.cst (.int 0)) (.cons (.cst (.int 2)) .nil)))) .nil)))) (.var 4))) (.cons (.ret (.tup (.cons (.var 5) (.cons (.tup (.cons (.tup (.cons (.cst (.int 2)) (.cons (.cst (.str "plain")) .nil))) (.cons (.tup (.cons (.cst (.int 5)) (.cons (.cst (.str "plain")) .nil))) .nil))) .nil)))) .nil))))⟩
def f34_c0 : IE := .cm1 [("lines", 5)] (.call 29 "width_at" (.cons (.var 0) (.cons (.var 5) .nil))) (.n 5 false) (.val (.tup (.cons (.cst (.int 0)) (.cons (.cst (.int 1)) (.cons (.cst (.int 2)) .nil))))) .no
def f34 : Df := ⟨"parted_by_mark", ["costs", "first", "second", "third", "found", "lines"], 1, (.cons (.asg (.t [(.n 1 false), (.n 2 false), (.n 3 false)]) f34_c0) (.cons (.asg (.n 4 false) (.tup (.cons (.tup (.cons (.cst (.str "box")) (.cons (.var 1) .nil))) (.cons (.tup (.cons (.cst (.str "place")) (.cons (.cst (.int 0)) (.cons (.cst (.int 0)) (.cons (.cst (.int 0)) (.cons (.cst (.int 0)) (.cons (.cst (.int 0)) .nil))))))) (.cons (.tup (.cons (.cst (.str "box")) (.cons (.var 2) .nil))) (.cons (.tup (.cons (.cst (.str "place")) (.cons (.cst .none) (.cons (.cst (.int 0)) (.cons (.cst (.int 0)) (.cons (.cst (.int 0)) (.cons (.cst (.int 0)) .nil))))))) (.cons (.tup (.cons (.cst (.str "box")) (.cons (.var 3) .nil))) .nil))))))) (.cons (.ret (.tup (.cons (.var 4) (.cons (.tup (.cons (.tup (.cons (.cst (.int 1)) (.cons (.cst (.str "plain")) .nil))) (.cons (.tup (.cons (.cst (.int 3)) (.cons (.cst (.str "marked")) .nil))) .nil))) .nil)))) .nil)))⟩
def f35_b0 : IB := (.cons (.asg (.n 2 false) (.bin .add (.var 2) (.tup (.cons (.tup (.cons (.cst (.str "box")) (.cons (.call 29 "width_at" (.cons (.var 0) (.cons (.var 4) .nil))) .nil))) (.cons (.call 32 "plain_place" (.cons (.cst (.int 0)) (.cons (.cst (.int 0)) (.cons (.cst (.int 0)) .nil)))) .nil))))) (.cons (.asg (.n 3 false) (.bin .add (.var 3) (.tup (.cons (.tup (.cons (.bin .add (.bin .mul (.cst (.int 2)) (.var 4)) (.cst (.int 1))) (.cons (.cst (.str "plain")) .nil))) .nil)))) .nil))
def f35_l0 : IS := .fr (.n 4 false) (.rg1 (.var 1)) f35_b0
def f35 : Df := ⟨"lines_ahead", ["costs", "many", "items", "way", "lines"], 2, (.cons (.asp [(.n 2 false), (.n 3 false)] (.cons (.tup .nil) (.cons (.tup .nil) .nil))) (.cons f35_l0 (.cons (.ret (.tup (.cons (.var 2) (.cons (.var 3) .nil)))) .nil)))⟩
def f36 : Df := ⟨"one_or_two", ["costs", "many", "price", "last", "items", "way", "one", "two", "at"], 4, (.cons (.asg (.t [(.n 4 false), (.n 5 false)]) (.call 35 "lines_ahead" (.cons (.var 0) (.cons (.var 1) .nil)))) (.cons (.asp [(.n 6 false), (.n 7 false), (.n 8 false)] (.cons (.call 29 "width_at" (.cons (.var 0) (.cons (.var 1) .nil))) (.cons (.call 29 "width_at" (.cons (.var 0) (.cons (.bin .add (.var 1) (.cst (.int 1))) .nil))) (.cons (.bl1 .len (.var 4)) .nil)))) (.cons (.asg (.n 4 false) (.bin .add (.var 4) (.tup (.cons (.tup (.cons (.cst (.str "box")) (.cons (.bin .sub (.var 6) (.cst (.int 1))) .nil))) (.cons (.call 32 "plain_place" (.cons (.var 2) (.cons (.cst (.int 1)) (.cons (.bin .sub (.var 7) (.cst (.int 1))) .nil)))) (.cons (.tup (.cons (.cst (.str "box")) (.cons (.cst (.int 1)) .nil))) (.cons (.call 32 "plain_place" (.cons (.cst (.int 0)) (.cons (.cst (.int 0)) (.cons (.cst (.int 0)) .nil)))) (.cons (.var 3) .nil)))))))) (.cons (.ret (.tup (.cons (.var 4) (.cons (.bin .add (.var 5) (.tup (.cons (.tup (.cons (.bin .add (.var 8) (.cst (.int 3))) (.cons (.cst (.str "plain")) .nil))) .nil))) (.cons (.bin .add (.var 5) (.tup (.cons (.tup (.cons (.bin .add (.var 8) (.cst (.int 1))) (.cons (.cst (.str "plain")) .nil))) (.cons (.tup (.cons (.bin .add (.var 8) (.cst (.int 3))) (.cons (.cst (.str "plain")) .nil))) .nil)))) .nil))))) .nil))))⟩
def f37 : Df := ⟨"two_or_three", ["costs", "many", "last", "items", "way", "one", "two", "three", "at", "short"], 3, (.cons (.asg (.t [(.n 3 false), (.n 4 false)]) (.call 35 "lines_ahead" (.cons (.var 0) (.cons (.var 1) .nil)))) (.cons (.asp [(.n 5 false), (.n 6 false), (.n 7 false), (.n 8 false)] (.cons (.call 29 "width_at" (.cons (.var 0) (.cons (.var 1) .nil))) (.cons (.call 29 "width_at" (.cons (.var 0) (.cons (.bin .add (.var 1) (.cst (.int 1))) .nil))) (.cons (.call 29 "width_at" (.cons (.var 0) (.cons (.bin .add (.var 1) (.cst (.int 2))) .nil))) (.cons (.bl1 .len (.var 3)) .nil))))) (.cons (.asg (.n 3 false) (.bin .add (.var 3) (.tup (.cons (.tup (.cons (.cst (.str "box")) (.cons (.bin .sub (.var 5) (.cst (.int 3))) .nil))) (.cons (.call 32 "plain_place" (.cons (.cst (.int 0)) (.cons (.cst (.int 3)) (.cons (.bin .sub (.var 6) (.cst (.int 2))) .nil)))) (.cons (.call 32 "plain_place" (.cons (.cst (.int 0)) (.cons (.cst (.int 3)) (.cons (.bin .sub (.var 6) (.cst (.int 6))) .nil)))) (.cons (.tup (.cons (.cst (.str "box")) (.cons (.cst (.int 1)) .nil))) .nil))))))) (.cons (.asg (.n 3 false) (.bin .add (.var 3) (.tup (.cons (.call 32 "plain_place" (.cons (.cst (.int 0)) (.cons (.cst (.int 5)) (.cons (.bin .sub (.var 7) (.cst (.int 1))) .nil)))) (.cons (.tup (.cons (.cst (.str "box")) (.cons (.cst (.int 1)) .nil))) (.cons (.call 32 "plain_place" (.cons (.cst (.int 0)) (.cons (.cst (.int 0)) (.cons (.cst (.int 0)) .nil)))) (.cons (.var 2) .nil))))))) (.cons (.asg (.n 9 false) (.bin .add (.var 4) (.tup (.cons (.tup (.cons (.bin .add (.var 8) (.cst (.int 1))) (.cons (.cst (.str "plain")) .nil))) (.cons (.tup (.cons (.bin .add (.var 8) (.cst (.int 6))) (.cons (.cst (.str "plain")) .nil))) .nil))))) (.cons (.ret (.tup (.cons (.var 3) (.cons (.var 9) (.cons (.bin .add (.var 4) (.tup (.cons (.tup (.cons (.bin .add (.var 8) (.cst (.int 2))) (.cons (.cst (.str "plain")) .nil))) (.cons (.tup (.cons (.bin .add (.var 8) (.cst (.int 4))) (.cons (.cst (.str "plain")) .nil))) (.cons (.tup (.cons (.bin .add (.var 8) (.cst (.int 6))) (.cons (.cst (.str "plain")) .nil))) .nil))))) .nil))))) .nil))))))⟩
def f38 : Df := ⟨"parted_by_width", ["costs", "alike", "narrow", "wide", "last", "items", "short", "long"], 1, (.cons (.asg (.n 1 false) (.call 30 "alike_from" (.cons (.var 0) .nil))) (.cons (.asp [(.n 2 false), (.n 3 false)] (.cons (.call 29 "width_at" (.cons (.var 0) (.cons (.bin .sub (.var 1) (.cst (.int 1))) .nil))) (.cons (.call 29 "width_at" (.cons (.var 0) (.cons (.var 1) .nil))) .nil))) (.cons (.asg (.n 4 false) (.tup (.cons (.cst (.str "box")) (.cons (.bl2 .max (.var 2) (.var 3)) .nil)))) (.cons (.asg (.t [(.n 5 false), (.n 6 false), (.n 7 false)]) (.call 36 "one_or_two" (.cons (.var 0) (.cons (.bin .sub (.var 1) (.cst (.int 2))) (.cons (.ife (.cmp .lt (.var 2) (.var 3)) (.cst (.int 1)) (.neg (.cst (.int 1)))) (.cons (.var 4) .nil)))))) (.cons (.ret (.tup (.cons (.var 5) (.cons (.ife (.cmp .lt (.var 2) (.var 3)) (.var 7) (.var 6)) .nil)))) .nil)))))⟩
def f39 : Df := ⟨"parted_by_wish", ["costs", "cap", "many", "wish", "items", "short", "long"], 2, (.cons (.asp [(.n 2 false), (.n 3 false)] (.cons (.bl2 .max (.bin .sub (.var 1) (.cst (.int 1))) (.cst (.int 0))) (.cons (.idx (.idx (.var 0) (.cst (.int 4))) (.cst (.int 0))) .nil))) (.cons (.ifs (.cmp .ge (.var 3) (.bin .add (.var 2) (.cst (.int 4)))) (.cons (.asg (.t [(.n 4 false), (.n 5 false), (.n 6 false)]) (.call 37 "two_or_three" (.cons (.var 0) (.cons (.var 2) (.cons (.tup (.cons (.cst (.str "box")) (.cons (.cst (.int 1)) .nil))) .nil))))) (.cons (.ret (.tup (.cons (.var 4) (.cons (.var 6) .nil)))) .nil)) .nil) (.cons (.asg (.n 2 false) (.bin .add (.var 2) (.ife (.cmp .eq (.var 3) (.bin .add (.var 2) (.cst (.int 3)))) (.cst (.int 1)) (.cst (.int 0))))) (.cons (.asg (.t [(.n 4 false), (.n 5 false), (.n 6 false)]) (.call 36 "one_or_two" (.cons (.var 0) (.cons (.var 2) (.cons (.cst (.int 0)) (.cons (.tup (.cons (.cst (.str "box")) (.cons (.cst (.int 1)) .nil))) .nil)))))) (.cons (.ret (.tup (.cons (.var 4) (.cons (.var 5) .nil)))) .nil)))))⟩
def f40 : Df := ⟨"parted_by", ["costs", "key"], 2, (.cons (.ifs (.and (.cmp .gt (.idx (.var 0) (.cst (.int 2))) (.cst (.int 0))) (.not (.idx (.var 1) (.cst (.int 1))))) (.cons (.ret (.call 33 "parted_by_tightness" (.cons (.var 0) .nil))) .nil) .nil) (.cons (.ifs (.and (.cmp .gt (.idx (.var 0) (.cst (.int 3))) (.cst (.int 0))) (.not (.idx (.var 1) (.cst (.int 2))))) (.cons (.ret (.call 34 "parted_by_mark" (.cons (.var 0) .nil))) .nil) .nil) (.cons (.ret (.ife (.cmp .gt (.idx (.idx (.var 0) (.cst (.int 4))) (.cst (.int 1))) (.cst (.int 0))) (.call 39 "parted_by_wish" (.cons (.var 0) (.cons (.idx (.var 1) (.cst (.int 0))) .nil))) (.call 38 "parted_by_width" (.cons (.var 0) .nil)))) .nil)))⟩
def f41 : Df := ⟨"does_split", ["costs"], 1, (.cons (.ret (.and (.cmp .eq (.idx (.var 0) (.cst (.int 2))) (.cst (.int 0))) (.and (.cmp .eq (.call 30 "alike_from" (.cons (.var 0) .nil)) (.cst (.int 0))) (.cmp .inn (.cst (.int 0)) (.idx (.var 0) (.cst (.int 4))))))) .nil)⟩
def f42_c0 : IE := .cm1 [("lines", 3)] (.var 3) (.n 3 false) (.rg1 (.bin .sub (.bl1 .len (.idx (.var 0) (.cst (.int 0)))) (.cst (.int 1)))) (.yes (.cmp .ne (.idx (.idx (.var 0) (.cst (.int 0))) (.var 3)) (.idx (.idx (.var 0) (.cst (.int 0))) (.bin .add (.var 3) (.cst (.int 1))))))
def f42 : Df := ⟨"unsplit_pair", ["costs", "at", "items", "lines"], 1, (.cons (.ifs (.cmp .notIn (.cst (.int 0)) (.idx (.var 0) (.cst (.int 4)))) (.cons (.ret (.tup (.cons (.tup .nil) (.cons (.tup .nil) .nil)))) .nil) .nil) (.cons (.ifs (.cmp .gt (.idx (.var 0) (.cst (.int 2))) (.cst (.int 0))) (.cons (.ret (.tup (.cons (.tup .nil) (.cons (.tup (.cons (.tup (.cons (.cst (.str "box")) (.cons (.cst (.int 1)) .nil))) (.cons (.call 32 "plain_place" (.cons (.cst (.int 0)) (.cons (.cst (.int 0)) (.cons (.cst (.int 0)) .nil)))) (.cons (.tup (.cons (.cst (.str "box")) (.cons (.call 29 "width_at" (.cons (.var 0) (.cons (.cst (.int 1)) .nil))) .nil))) .nil)))) .nil)))) .nil) .nil) (.cons (.asg (.n 1 false) (.idx f42_c0 (.cst (.int 0)))) (.cons (.asg (.n 2 false) (.idx (.call 35 "lines_ahead" (.cons (.var 0) (.cons (.var 1) .nil))) (.cst (.int 0)))) (.cons (.ret (.tup (.cons (.tup .nil) (.cons (.bin .add (.var 2) (.tup (.cons (.tup (.cons (.cst (.str "box")) (.cons (.bl2 .max (.call 29 "width_at" (.cons (.var 0) (.cons (.var 1) .nil))) (.call 29 "width_at" (.cons (.var 0) (.cons (.bin .add (.var 1) (.cst (.int 1))) .nil)))) .nil))) .nil))) .nil)))) .nil)))))⟩
def f43 : Df := ⟨"is_enough", ["costs", "key"], 2, (.cons (.exx 7 "need_costs" (.cons (.var 0) .nil)) (.cons (.exx 28 "need_key" (.cons (.var 1) .nil)) (.cons (.qt (.ret (.call 31 "is_good_key" (.cons (.var 0) (.cons (.var 1) .nil))))) .nil)))⟩
def f44 : Df := ⟨"key_way", ["paragraph", "costs", "key", "found"], 3, (.cons (.exx 6 "need_paragraph" (.cons (.var 0) .nil)) (.cons (.exx 7 "need_costs" (.cons (.var 1) .nil)) (.cons (.exx 28 "need_key" (.cons (.var 2) .nil)) (.cons (.qt (.asg (.n 3 false) (.call 19 "cheapest" (.cons (.var 1) (.cons (.idx (.call 17 "kept_at_all" (.cons (.var 0) (.cons (.var 1) (.cons (.var 2) .nil)))) (.cst (.int 1))) .nil))))) (.cons (.qt (.ret (.ife (.cmp .is (.var 3) (.cst .none)) (.cst .none) (.idx (.var 3) (.cst (.int 1)))))) .nil)))))⟩
def f45 : Df := ⟨"parting_paragraph", ["costs", "key"], 2, (.cons (.exx 7 "need_costs" (.cons (.var 0) .nil)) (.cons (.exx 28 "need_key" (.cons (.var 1) .nil)) (.cons (.qt (.ret (.ife (.call 31 "is_good_key" (.cons (.var 0) (.cons (.var 1) .nil))) (.cst .none) (.call 40 "parted_by" (.cons (.var 0) (.cons (.var 1) .nil)))))) .nil)))⟩
def f46 : Df := ⟨"do_split", ["costs"], 1, (.cons (.exx 7 "need_costs" (.cons (.var 0) .nil)) (.cons (.qt (.ret (.call 41 "does_split" (.cons (.var 0) .nil)))) .nil))⟩
def f47 : Df := ⟨"parting_pair", ["costs"], 1, (.cons (.exx 7 "need_costs" (.cons (.var 0) .nil)) (.cons (.qt (.ret (.ife (.call 41 "does_split" (.cons (.var 0) .nil)) (.cst .none) (.call 42 "unsplit_pair" (.cons (.var 0) .nil))))) .nil))⟩
def f48_c0 : IE := .cm1 [("item", 1)] (.and (.call 3 "fits_item" (.cons (.var 1) .nil)) (.cmp .inn (.idx (.var 1) (.cst (.int 0))) (.tup (.cons (.cst (.str "gap")) (.cons (.cst (.str "place")) .nil))))) (.n 1 false) (.val (.var 0)) .no
def f48 : Df := ⟨"fits_lot", ["value", "item"], 1, (.cons (.ret (.and (.call 1 "is_row_of" (.cons (.var 0) (.cons (.cst (.int 0)) (.cons (.glob "LOT" (.int 20)) .nil)))) (.bl1 .all f48_c0))) .nil)⟩
def f49 : Df := ⟨"need_lot", ["value"], 1, (.cons (.ifx (.not (.call 48 "fits_lot" (.cons (.var 0) .nil))) (.cons (.rai "InvalidLot") .nil) .nil) .nil)⟩
def f50 : Df := ⟨"is_safe_item", ["item"], 1, (.cons (.ret (.ife (.cmp .eq (.idx (.var 0) (.cst (.int 0))) (.cst (.str "gap"))) (.cmp .le (.idx (.var 0) (.cst (.int 3))) (.idx (.var 0) (.cst (.int 1)))) (.cmp .le (.idx (.var 0) (.cst (.int 3))) (.idx (.var 0) (.cst (.int 5)))))) .nil)⟩
def f51_c0 : IE := .cm1 [("one", 9)] (.var 9) (.n 9 false) (.val (.var 2)) (.yes (.cmp .ge (.idx (.var 9) (.cst (.int 0))) (.var 6)))
def f51_b0 : IB := (.cons (.ifs (.cmp .isNot (.call 11 "fit_of" (.cons (.var 0) (.cons (.var 1) (.cons (.idx (.var 8) (.cst (.int 0))) (.cons (.var 4) (.cons (.idx (.var 8) (.cst (.int 3))) .nil)))))) (.cst .none)) (.cons (.asp [(.n 3 false), (.n 7 false)] (.cons (.bin .add (.var 3) (.call 13 "led_on" (.cons (.var 0) (.cons (.var 1) (.cons (.var 8) (.cons (.var 4) .nil)))))) (.cons (.bin .add (.var 7) (.lst (.cons (.var 8) .nil))) .nil))) .nil) .nil) .nil)
def f51_l0 : IS := .fr (.n 8 false) (.val f51_c0) f51_b0
def f51_b1 : IB := (.cons (.asp [(.n 6 false), (.n 3 false), (.n 7 false)] (.cons (.call 15 "last_end" (.cons (.var 0) (.cons (.var 4) .nil))) (.cons (.lst .nil) (.cons (.lst .nil) .nil)))) (.cons f51_l0 (.cons (.asg (.n 2 false) (.bin .add (.var 7) (.ife (.cmp .lt (.var 4) (.bl1 .len (.var 0))) (.call 16 "kept_by" (.cons (.glob "FULL" (.tuple [.none, (.bool true), (.bool true)])) (.cons (.var 3) .nil))) (.lst .nil)))) .nil)))
def f51_l1 : IS := .fr (.n 4 false) (.val (.call 14 "stops_of" (.cons (.var 0) .nil))) f51_b1
def f51 : Df := ⟨"dropped_way", ["paragraph", "costs", "kept", "entries", "stop", "found", "first", "left", "entry", "one"], 2, (.cons (.asp [(.n 2 false), (.n 3 false)] (.cons (.lst (.cons (.tup (.cons (.neg (.cst (.int 1))) (.cons (.cst (.int 0)) (.cons (.tup .nil) (.cons (.cst (.int 0)) (.cons (.cst .none) (.cons (.cst (.str "plain")) .nil))))))) .nil)) (.cons (.lst .nil) .nil))) (.cons f51_l1 (.cons (.asg (.n 5 false) (.call 19 "cheapest" (.cons (.var 1) (.cons (.var 3) .nil)))) (.cons (.ret (.ife (.cmp .is (.var 5) (.cst .none)) (.cst .none) (.idx (.var 5) (.cst (.int 1))))) .nil))))⟩
def f52 : Df := ⟨"unsafe_pair", ["item"], 1, (.cons (.ifs (.cmp .eq (.idx (.var 0) (.cst (.int 0))) (.cst (.str "gap"))) (.cons (.ret (.tup (.cons (.tup (.cons (.tup (.cons (.cst (.str "box")) (.cons (.cst (.int 100)) .nil))) (.cons (.tup (.cons (.cst (.str "box")) (.cons (.cst (.int 1)) .nil))) (.cons (.tup (.cons (.cst (.str "place")) (.cons (.cst (.int 0)) (.cons (.cst .none) (.cons (.cst (.int 0)) (.cons (.cst (.int 0)) (.cons (.cst (.int 0)) .nil))))))) (.cons (.var 0) .nil))))) (.cons (.tup (.cons (.tup (.cons (.cst (.int 100)) .nil)) (.cons (.cst (.int 0)) (.cons (.cst (.int 0)) (.cons (.cst (.int 0)) (.cons (.tup (.cons (.cst (.int 0)) (.cons (.cst (.int 0)) .nil))) .nil)))))) .nil)))) .nil) .nil) (.cons (.ret (.tup (.cons (.tup (.cons (.tup (.cons (.cst (.str "box")) (.cons (.bin .sub (.cst (.int 1000)) (.idx (.var 0) (.cst (.int 5)))) .nil))) (.cons (.var 0) .nil))) (.cons (.tup (.cons (.tup (.cons (.cst (.int 1000)) .nil)) (.cons (.cst (.int 0)) (.cons (.cst (.int 0)) (.cons (.cst (.int 0)) (.cons (.tup (.cons (.cst (.int 0)) (.cons (.cst (.int 0)) .nil))) .nil)))))) .nil)))) .nil))⟩
def f53 : Df := ⟨"dropping_way", ["paragraph", "costs"], 2, (.cons (.exx 6 "need_paragraph" (.cons (.var 0) .nil)) (.cons (.exx 7 "need_costs" (.cons (.var 1) .nil)) (.cons (.qt (.ret (.call 51 "dropped_way" (.cons (.var 0) (.cons (.var 1) .nil))))) .nil)))⟩
def f54_c0 : IE := .cm1 [("item", 1)] (.call 50 "is_safe_item" (.cons (.var 1) .nil)) (.n 1 false) (.val (.var 0)) .no
def f54 : Df := ⟨"is_safe", ["lot", "item"], 1, (.cons (.exx 49 "need_lot" (.cons (.var 0) .nil)) (.cons (.qt (.ret (.bl1 .all f54_c0))) .nil))⟩
def f55_c0 : IE := .cm1 [("item", 2)] (.var 2) (.n 2 false) (.val (.var 0)) (.yes (.not (.call 50 "is_safe_item" (.cons (.var 2) .nil))))
def f55 : Df := ⟨"dropped_pair", ["lot", "some", "item"], 1, (.cons (.exx 49 "need_lot" (.cons (.var 0) .nil)) (.cons (.qt (.asg (.n 1 false) f55_c0)) (.cons (.qt (.ret (.ife (.cmp .ne (.var 1) (.lst .nil)) (.call 52 "unsafe_pair" (.cons (.idx (.var 1) (.cst (.int 0))) .nil)) (.cst .none)))) .nil)))⟩
def f56 : Df := ⟨"_law_cup", ["_law_script", "_law_cell"], 1, (.cons (.asg (.n 1 false) (.bl1 .abs (.idx (.bin .add (.bl1 .list (.var 0)) (.lst (.cons (.cst (.int 0)) .nil))) (.cst (.int 0))))) (.cons (.ret (.lst (.cons (.ife (.cmp .ge (.var 1) (.bin .pow (.cst (.int 10)) (.cst (.int 18)))) (.bin .div (.var 1) (.cst (.int 17))) (.cst (.int 0))) (.cons (.bin .add (.bin .mod (.bl1 .int (.bin .add (.bin .mul (.var 1) (.cst (.int 199))) (.cst (.int 1409)))) (.cst (.int 2077504273))) (.cst (.int 83))) .nil)))) .nil))⟩
def f57 : Df := ⟨"_law_roll", ["_law_cup_here", "_law_many", "_law_dp", "_law_f"], 2, (.cons (.ifs (.cmp .gt (.idx (.var 0) (.cst (.int 0))) (.cst (.int 0))) (.cons (.asg (.n 3 false) (.bin .mod (.bl1 .int (.idx (.var 0) (.cst (.int 0)))) (.var 1))) (.cons (.sto 0 (.cst (.int 0)) (.bin .div (.idx (.var 0) (.cst (.int 0))) (.var 1))) (.cons (.ret (.var 3)) .nil))) .nil) (.cons (.sto 0 (.cst (.int 1)) (.bin .mod (.bl1 .int (.bin .add (.bin .mul (.idx (.var 0) (.cst (.int 1))) (.cst (.int 30671))) (.cst (.int 7937)))) (.cst (.int 2147483549)))) (.cons (.asg (.n 2 false) (.bin .mod (.bl1 .int (.bin .mul (.idx (.var 0) (.cst (.int 1))) (.bin .add (.idx (.var 0) (.cst (.int 1))) (.cst (.int 139))))) (.cst (.int 2147483587)))) (.cons (.ret (.bin .mod (.bl1 .int (.bin .div (.var 2) (.cst (.int 733)))) (.var 1))) .nil))))⟩
def f58 : Df := ⟨"_law_some", ["_law_cup_here", "_law_things"], 2, (.cons (.ret (.idx (.var 1) (.call 57 "_law_roll" (.lend 0 (.cons (.bl1 .len (.var 1)) .nil))))) .nil)⟩
def f59 : Df := ⟨"_law_by_paragraph", ["_law_par", "_law_costs", "_law_words"], 2, (.cons (.asg (.n 2 true) (.lst (.cons (.lamc kc "_law_error" 24 "least_way" (.cons (.var 0) (.cons (.var 1) .nil))) .nil))) (.cons (.app 2 (.lamc kc "_law_error" 25 "price_paper" (.cons (.var 0) (.cons (.var 1) .nil)))) (.cons (.app 2 (.lamc kc "_law_error" 26 "is_price_paper" (.cons (.var 0) (.cons (.var 1) (.cons (.cst .none) .nil))))) (.cons (.app 2 (.lamc kc "_law_error" 53 "dropping_way" (.cons (.var 0) (.cons (.var 1) .nil)))) (.cons (.ret (.bin .add (.var 2) (.lst (.cons (.lamc kc "_law_error" 44 "key_way" (.cons (.var 0) (.cons (.var 1) (.cons (.cst .none) .nil)))) .nil)))) .nil)))))⟩
def f60 : Df := ⟨"_law_by_costs", ["_law_costs", "_law_key", "_law_words"], 2, (.cons (.asg (.n 2 true) (.lst (.cons (.lamc kc "_law_error" 43 "is_enough" (.cons (.var 0) (.cons (.var 1) .nil))) .nil))) (.cons (.app 2 (.lamc kc "_law_error" 45 "parting_paragraph" (.cons (.var 0) (.cons (.var 1) .nil)))) (.cons (.app 2 (.lamc kc "_law_error" 46 "do_split" (.cons (.var 0) .nil))) (.cons (.ret (.bin .add (.var 2) (.lst (.cons (.lamc kc "_law_error" 47 "parting_pair" (.cons (.var 0) .nil)) .nil)))) .nil))))⟩
def f61_b0 : IB := (.cons (.asg (.n 6 false) (.lst (.cons (.lamc kc "_law_error" 54 "is_safe" (.cons (.var 4) .nil)) .nil))) (.cons (.ifs (.cmp .ne (.bin .add (.var 6) (.lst (.cons (.lamc kc "_law_error" 55 "dropped_pair" (.cons (.var 4) .nil)) .nil))) (.lst (.cons (.cst (.str "lot")) (.cons (.cst (.str "lot")) .nil)))) (.cons (.ret (.cst (.bool false))) .nil) .nil) .nil))
def f61_l0 : IS := .fr (.n 4 false) (.val (.lst (.cons (.cst .none) (.cons (.lst .nil) (.cons (.tup (.cons (.cst (.int 5)) .nil)) (.cons (.tup (.cons (.tup (.cons (.cst (.str "box")) (.cons (.cst (.int 1)) .nil))) .nil)) (.cons (.tup (.cons (.tup (.cons (.cst (.str "end")) .nil)) .nil)) (.cons (.bin .mul (.tup (.cons (.var 5) .nil)) (.cst (.int 21))) (.cons (.tup (.cons (.slc (.var 5) .no (.yes (.cst (.int 5)))) .nil)) (.cons (.tup (.cons (.tup (.cons (.cst (.str "gap")) (.cons (.cst (.int 0)) (.cons (.cst (.int 0)) (.cons (.neg (.cst (.int 1))) .nil))))) .nil)) (.cons (.tup (.cons (.tup (.cons (.cst (.str "place")) (.cons (.cst .none) (.cons (.cst .none) (.cons (.cst (.int 0)) (.cons (.cst (.int 0)) (.cons (.cst (.int 0)) .nil))))))) .nil)) .nil))))))))))) f61_b0
def f61_b1 : IB := (.cons (.asg (.n 6 false) (.lst (.cons (.lamc kc "_law_error" 44 "key_way" (.cons (.tup (.cons (.tup (.cons (.cst (.str "end")) .nil)) .nil)) (.cons (.var 2) (.cons (.var 4) .nil)))) .nil))) (.cons (.ifs (.cmp .ne (.bin .add (.var 6) (.call 60 "_law_by_costs" (.cons (.var 2) (.cons (.var 4) .nil)))) (.bin .add (.bin .mul (.lst (.cons (.cst (.str "key")) .nil)) (.cst (.int 3))) (.lst (.cons (.cst (.str "")) (.cons (.cst (.str "")) .nil))))) (.cons (.ret (.cst (.bool false))) .nil) .nil) .nil))
def f61_l1 : IS := .fr (.n 4 false) (.val (.lst (.cons (.cst .none) (.cons (.tup .nil) (.cons (.tup (.cons (.cst (.int 0)) (.cons (.cst (.bool true)) .nil))) (.cons (.tup (.cons (.cst (.int 9)) (.cons (.cst (.bool true)) (.cons (.cst (.bool true)) .nil)))) (.cons (.tup (.cons (.neg (.cst (.int 1))) (.cons (.cst (.bool true)) (.cons (.cst (.bool true)) .nil)))) (.cons (.tup (.cons (.cst (.bool true)) (.cons (.cst (.bool true)) (.cons (.cst (.bool true)) .nil)))) (.cons (.tup (.cons (.cst (.int 0)) (.cons (.cst (.int 1)) (.cons (.cst (.bool true)) .nil)))) (.cons (.tup (.cons (.cst (.int 0)) (.cons (.cst (.bool true)) (.cons (.cst .none) .nil)))) (.cons (.lst (.cons (.cst (.int 0)) (.cons (.cst (.bool true)) (.cons (.cst (.bool true)) .nil)))) .nil))))))))))) f61_b1
def f61_b2 : IB := (.cons (.ifs (.or (.cmp .ne (.call 59 "_law_by_paragraph" (.cons (.tup .nil) (.cons (.var 4) .nil))) (.bin .mul (.lst (.cons (.cst (.str "costs")) .nil)) (.cst (.int 5)))) (.cmp .ne (.call 60 "_law_by_costs" (.cons (.var 4) (.cons (.var 3) .nil))) (.bin .mul (.lst (.cons (.cst (.str "costs")) .nil)) (.cst (.int 4))))) (.cons (.ret (.cst (.bool false))) .nil) .nil) .nil)
def f61_l2 : IS := .fr (.n 4 false) (.val (.lst (.cons (.cst .none) (.cons (.tup .nil) (.cons (.slc (.var 2) .no (.yes (.cst (.int 4)))) (.cons (.bin .add (.tup (.cons (.cst (.int 20)) .nil)) (.slc (.var 2) (.yes (.cst (.int 1))) .no)) (.cons (.bin .add (.tup (.cons (.tup (.cons (.cst (.int 1001)) .nil)) .nil)) (.slc (.var 2) (.yes (.cst (.int 1))) .no)) (.cons (.bin .add (.slc (.var 2) .no (.yes (.cst (.int 4)))) (.tup (.cons (.tup (.cons (.cst (.int 0)) (.cons (.neg (.cst (.int 1))) .nil))) .nil))) (.cons (.bin .add (.slc (.var 2) .no (.yes (.cst (.int 4)))) (.tup (.cons (.cst (.int 0)) .nil))) (.cons (.bin .add (.var 2) (.tup (.cons (.cst (.int 0)) .nil))) .nil)))))))))) f61_b2
def f61_b3 : IB := (.cons (.ifs (.cmp .ne (.call 59 "_law_by_paragraph" (.cons (.var 4) (.cons (.var 3) .nil))) (.bin .mul (.lst (.cons (.cst (.str "paragraph")) .nil)) (.cst (.int 5)))) (.cons (.ret (.cst (.bool false))) .nil) .nil) .nil)
def f61_l3 : IS := .fr (.n 4 false) (.val (.lst (.cons (.cst .none) (.cons (.lst .nil) (.cons (.tup (.cons (.cst (.int 5)) .nil)) (.cons (.tup (.cons (.tup (.cons (.cst (.str "box")) (.cons (.cst (.int 1001)) .nil))) .nil)) (.cons (.bin .mul (.tup (.cons (.tup (.cons (.cst (.str "end")) .nil)) .nil)) (.cst (.int 61))) (.cons (.tup (.cons (.tup (.cons (.cst (.str "place")) (.cons (.cst (.int 0)) (.cons (.cst (.int 0)) (.cons (.cst (.int 0)) (.cons (.cst (.int 0)) .nil)))))) .nil)) (.cons (.tup (.cons (.tup (.cons (.cst (.str "gap")) (.cons (.cst (.int 0)) (.cons (.cst (.int 0)) (.cons (.cst (.bool true)) .nil))))) .nil)) (.cons (.cst (.str "box")) .nil)))))))))) f61_b3
def f61 : Df := ⟨"law", ["_law_script", "_law_cup_here", "_law_costs", "_law_other", "_law_odd", "_law_place", "_law_words"], 1, (.cons (.asg (.n 1 true) (.call 56 "_law_cup" (.cons (.var 0) .nil))) (.cons (.asg (.n 2 false) (.tup (.cons (.tup (.cons (.call 58 "_law_some" (.lend 1 (.cons (.lst (.cons (.cst (.int 20)) (.cons (.cst (.int 30)) .nil))) .nil))) .nil)) (.cons (.call 57 "_law_roll" (.lend 1 (.cons (.cst (.int 3)) .nil))) (.cons (.call 57 "_law_roll" (.lend 1 (.cons (.cst (.int 2)) .nil))) (.cons (.call 57 "_law_roll" (.lend 1 (.cons (.cst (.int 2)) .nil))) (.cons (.tup (.cons (.call 57 "_law_roll" (.lend 1 (.cons (.cst (.int 3)) .nil))) (.cons (.call 57 "_law_roll" (.lend 1 (.cons (.cst (.int 2)) .nil))) .nil))) .nil))))))) (.cons (.asg (.n 3 false) (.call 58 "_law_some" (.lend 1 (.cons (.lst (.cons (.cst .none) (.cons (.var 2) (.cons (.cst (.int 5)) (.cons (.lst .nil) .nil))))) .nil)))) (.cons f61_l3 (.cons f61_l2 (.cons (.ifs (.or (.cmp .ne (.call 59 "_law_by_paragraph" (.cons (.tup .nil) (.cons (.var 2) .nil))) (.lst (.cons (.cst (.str "")) (.cons (.cst (.str "")) (.cons (.cst (.str "")) (.cons (.cst (.str "")) (.cons (.cst (.str "key")) .nil))))))) (.cmp .ne (.call 60 "_law_by_costs" (.cons (.var 2) (.cons (.tup (.cons (.cst .none) (.cons (.cst (.bool true)) (.cons (.cst (.bool true)) .nil)))) .nil))) (.bin .mul (.lst (.cons (.cst (.str "")) .nil)) (.cst (.int 4))))) (.cons (.ret (.cst (.bool false))) .nil) .nil) (.cons f61_l1 (.cons (.asg (.n 5 false) (.tup (.cons (.cst (.str "place")) (.cons (.cst (.int 0)) (.cons (.cst .none) (.cons (.cst (.int 0)) (.cons (.cst (.int 0)) (.cons (.cst (.int 0)) .nil)))))))) (.cons f61_l0 (.cons (.ret (.and (.cmp .is (.call 54 "is_safe" (.cons (.bin .mul (.tup (.cons (.var 5) .nil)) (.cst (.int 20))) .nil)) (.cst (.bool true))) (.and (.cmp .is (.call 54 "is_safe" (.cons (.tup .nil) .nil)) (.cst (.bool true))) (.cmp .is (.call 55 "dropped_pair" (.cons (.tup .nil) .nil)) (.cst .none))))) .nil))))))))))⟩
abbrev st (i : Nat) : Stmt := PySem.Challenge.pw_settlepages_k41_keys_lots_and_lines_refu.main.body.getD i (.Pass ⟨0, 0, 0, 0⟩)
def T0 : List Dt := [⟨f0, defArgs (st 7), defBody (st 7), defScope (st 7), "is_whole"⟩, ⟨f1, defArgs (st 8), defBody (st 8), defScope (st 8), "is_row_of"⟩, ⟨f2, defArgs (st 17), defBody (st 17), defScope (st 17), "fits_price"⟩, ⟨f3, defArgs (st 18), defBody (st 18), defScope (st 18), "fits_item"⟩, ⟨f4, defArgs (st 19), defBody (st 19), defScope (st 19), "fits_paragraph"⟩, ⟨f5, defArgs (st 20), defBody (st 20), defScope (st 20), "fits_costs"⟩, ⟨f6, defArgs (st 21), defBody (st 21), defScope (st 21), "need_paragraph"⟩, ⟨f7, defArgs (st 22), defBody (st 22), defScope (st 22), "need_costs"⟩, ⟨f8, defArgs (st 23), defBody (st 23), defScope (st 23), "first_item"⟩, ⟨f9, defArgs (st 24), defBody (st 24), defScope (st 24), "line_sums"⟩, ⟨f10, defArgs (st 25), defBody (st 25), defScope (st 25), "is_last"⟩, ⟨f11, defArgs (st 26), defBody (st 26), defScope (st 26), "fit_of"⟩, ⟨f12, defArgs (st 27), defBody (st 27), defScope (st 27), "taken_at"⟩, ⟨f13, defArgs (st 28), defBody (st 28), defScope (st 28), "led_on"⟩, ⟨f14, defArgs (st 29), defBody (st 29), defScope (st 29), "stops_of"⟩, ⟨f15, defArgs (st 30), defBody (st 30), defScope (st 30), "last_end"⟩, ⟨f16, defArgs (st 31), defBody (st 31), defScope (st 31), "kept_by"⟩, ⟨f17, defArgs (st 32), defBody (st 32), defScope (st 32), "kept_at_all"⟩, ⟨f18, defArgs (st 33), defBody (st 33), defScope (st 33), "wished"⟩, ⟨f19, defArgs (st 34), defBody (st 34), defScope (st 34), "cheapest"⟩]
def T1 : List Dt := [⟨f20, defArgs (st 35), defBody (st 35), defScope (st 35), "least_pair"⟩, ⟨f21, defArgs (st 36), defBody (st 36), defScope (st 36), "states_of"⟩, ⟨f22, defArgs (st 37), defBody (st 37), defScope (st 37), "fits_prices"⟩, ⟨f23, defArgs (st 38), defBody (st 38), defScope (st 38), "are_prices"⟩, ⟨f24, defArgs (st 39), defBody (st 39), defScope (st 39), "least_way"⟩, ⟨f25, defArgs (st 40), defBody (st 40), defScope (st 40), "price_paper"⟩, ⟨f26, defArgs (st 41), defBody (st 41), defScope (st 41), "is_price_paper"⟩, ⟨f27, defArgs (st 45), defBody (st 45), defScope (st 45), "fits_key"⟩, ⟨f28, defArgs (st 46), defBody (st 46), defScope (st 46), "need_key"⟩, ⟨f29, defArgs (st 47), defBody (st 47), defScope (st 47), "width_at"⟩, ⟨f30, defArgs (st 48), defBody (st 48), defScope (st 48), "alike_from"⟩, ⟨f31, defArgs (st 49), defBody (st 49), defScope (st 49), "is_good_key"⟩, ⟨f32, defArgs (st 50), defBody (st 50), defScope (st 50), "plain_place"⟩, ⟨f33, defArgs (st 51), defBody (st 51), defScope (st 51), "parted_by_tightness"⟩, ⟨f34, defArgs (st 52), defBody (st 52), defScope (st 52), "parted_by_mark"⟩, ⟨f35, defArgs (st 53), defBody (st 53), defScope (st 53), "lines_ahead"⟩, ⟨f36, defArgs (st 54), defBody (st 54), defScope (st 54), "one_or_two"⟩, ⟨f37, defArgs (st 55), defBody (st 55), defScope (st 55), "two_or_three"⟩, ⟨f38, defArgs (st 56), defBody (st 56), defScope (st 56), "parted_by_width"⟩, ⟨f39, defArgs (st 57), defBody (st 57), defScope (st 57), "parted_by_wish"⟩]
def T2 : List Dt := [⟨f40, defArgs (st 58), defBody (st 58), defScope (st 58), "parted_by"⟩, ⟨f41, defArgs (st 59), defBody (st 59), defScope (st 59), "does_split"⟩, ⟨f42, defArgs (st 60), defBody (st 60), defScope (st 60), "unsplit_pair"⟩, ⟨f43, defArgs (st 61), defBody (st 61), defScope (st 61), "is_enough"⟩, ⟨f44, defArgs (st 62), defBody (st 62), defScope (st 62), "key_way"⟩, ⟨f45, defArgs (st 63), defBody (st 63), defScope (st 63), "parting_paragraph"⟩, ⟨f46, defArgs (st 64), defBody (st 64), defScope (st 64), "do_split"⟩, ⟨f47, defArgs (st 65), defBody (st 65), defScope (st 65), "parting_pair"⟩, ⟨f48, defArgs (st 68), defBody (st 68), defScope (st 68), "fits_lot"⟩, ⟨f49, defArgs (st 69), defBody (st 69), defScope (st 69), "need_lot"⟩, ⟨f50, defArgs (st 70), defBody (st 70), defScope (st 70), "is_safe_item"⟩, ⟨f51, defArgs (st 71), defBody (st 71), defScope (st 71), "dropped_way"⟩, ⟨f52, defArgs (st 72), defBody (st 72), defScope (st 72), "unsafe_pair"⟩, ⟨f53, defArgs (st 73), defBody (st 73), defScope (st 73), "dropping_way"⟩, ⟨f54, defArgs (st 74), defBody (st 74), defScope (st 74), "is_safe"⟩, ⟨f55, defArgs (st 75), defBody (st 75), defScope (st 75), "dropped_pair"⟩, ⟨f56, defArgs (st 77), defBody (st 77), defScope (st 77), "_law_cup"⟩, ⟨f57, defArgs (st 78), defBody (st 78), defScope (st 78), "_law_roll"⟩, ⟨f58, defArgs (st 79), defBody (st 79), defScope (st 79), "_law_some"⟩, ⟨f59, defArgs (st 81), defBody (st 81), defScope (st 81), "_law_by_paragraph"⟩]
def T3 : List Dt := [⟨f60, defArgs (st 82), defBody (st 82), defScope (st 82), "_law_by_costs"⟩, ⟨f61, defArgs (st 83), defBody (st 83), defScope (st 83), "law"⟩]
def T : List Dt := T0 ++ T1 ++ T2 ++ T3
def bs : List Str := ["isinstance", "bool", "int", "len", "tuple", "all", "str", "range", "min", "abs", "sorted", "dict", "list", "max"]
def gl : List (Str × D) := [("DEAR_paragraphs", (.int 1000000000)), ("LONG", (.int 1000)), ("ITEMS", (.int 60)), ("WORST", (.int 10000)), ("FULL", (.tuple [.none, (.bool true), (.bool true)])), ("HUGE", (.int 10000000000000000000000000000000000000000000000000000000000000000000000000000000000000000000000000000)), ("CAP", (.int 8)), ("DEAR_linekeys", (.int 100000000)), ("LOT", (.int 20))]
def gd : Gd := [("SIZES", [("box", (.int 2)), ("gap", (.int 4)), ("place", (.int 6)), ("end", (.int 1))])]
def dC : Dt := ⟨⟨"_law_error", ["_law_call"], 1, .nil⟩, defArgs (st 80), defBody (st 80), defScope (st 80), "_law_error"⟩
def csx : List Str := ["InvalidParagraph", "InvalidCosts", "InvalidKey", "InvalidLot", "SettleError"]
def lch : List (Str × Str) := [("InvalidParagraph", "paragraph"), ("InvalidCosts", "costs"), ("InvalidKey", "key"), ("InvalidLot", "lot"), ("SettleError", "other")]
def lmn : List Str := ["_law_by_paragraph", "_law_by_costs", "law"]
theorem hT : T.all (chX T bs (gl ++ gd.map gdE) csx (lmn, [(dC.nm, kc)])) = true := by kernel_rfl
theorem hC : catC dC "_law_call" "" lch csx kc = true := by kernel_rfl
theorem hB : AllB (T ++ [dC]) := ⟨fun _ _ _ _ _ _ us hl => match us, hl with | [_, _, _], _ => rfl, fun _ _ _ _ _ _ us hl => match us, hl with | [_, _, _], _ => rfl, fun _ _ _ _ _ _ us hl => match us, hl with | [_], _ => rfl, fun _ _ _ _ _ _ us hl => match us, hl with | [_], _ => rfl, fun _ _ _ _ _ _ us hl => match us, hl with | [_], _ => rfl, fun _ _ _ _ _ _ us hl => match us, hl with | [_], _ => rfl, fun _ _ _ _ _ _ us hl => match us, hl with | [_], _ => rfl, fun _ _ _ _ _ _ us hl => match us, hl with | [_], _ => rfl, fun _ _ _ _ _ _ us hl => match us, hl with | [_, _], _ => rfl, fun _ _ _ _ _ _ us hl => match us, hl with | [_, _, _], _ => rfl, fun _ _ _ _ _ _ us hl => match us, hl with | [_, _], _ => rfl, fun _ _ _ _ _ _ us hl => match us, hl with | [_, _, _, _, _], _ => rfl, fun _ _ _ _ _ _ us hl => match us, hl with | [_, _], _ => rfl, fun _ _ _ _ _ _ us hl => match us, hl with | [_, _, _, _], _ => rfl, fun _ _ _ _ _ _ us hl => match us, hl with | [_], _ => rfl, fun _ _ _ _ _ _ us hl => match us, hl with | [_, _], _ => rfl, fun _ _ _ _ _ _ us hl => match us, hl with | [_, _], _ => rfl, fun _ _ _ _ _ _ us hl => match us, hl with | [_, _, _], _ => rfl, fun _ _ _ _ _ _ us hl => match us, hl with | [_, _], _ => rfl, fun _ _ _ _ _ _ us hl => match us, hl with | [_, _], _ => rfl, fun _ _ _ _ _ _ us hl => match us, hl with | [_, _], _ => rfl, fun _ _ _ _ _ _ us hl => match us, hl with | [_, _], _ => rfl, fun _ _ _ _ _ _ us hl => match us, hl with | [_], _ => rfl, fun _ _ _ _ _ _ us hl => match us, hl with | [_, _, _], _ => rfl, fun _ _ _ _ _ _ us hl => match us, hl with | [_, _], _ => rfl, fun _ _ _ _ _ _ us hl => match us, hl with | [_, _], _ => rfl, fun _ _ _ _ _ _ us hl => match us, hl with | [_, _, _], _ => rfl, fun _ _ _ _ _ _ us hl => match us, hl with | [_], _ => rfl, fun _ _ _ _ _ _ us hl => match us, hl with | [_], _ => rfl, fun _ _ _ _ _ _ us hl => match us, hl with | [_, _], _ => rfl, fun _ _ _ _ _ _ us hl => match us, hl with | [_], _ => rfl, fun _ _ _ _ _ _ us hl => match us, hl with | [_, _], _ => rfl, fun _ _ _ _ _ _ us hl => match us, hl with | [_, _, _], _ => rfl, fun _ _ _ _ _ _ us hl => match us, hl with | [_], _ => rfl, fun _ _ _ _ _ _ us hl => match us, hl with | [_], _ => rfl, fun _ _ _ _ _ _ us hl => match us, hl with | [_, _], _ => rfl, fun _ _ _ _ _ _ us hl => match us, hl with | [_, _, _, _], _ => rfl, fun _ _ _ _ _ _ us hl => match us, hl with | [_, _, _], _ => rfl, fun _ _ _ _ _ _ us hl => match us, hl with | [_], _ => rfl, fun _ _ _ _ _ _ us hl => match us, hl with | [_, _], _ => rfl, fun _ _ _ _ _ _ us hl => match us, hl with | [_, _], _ => rfl, fun _ _ _ _ _ _ us hl => match us, hl with | [_], _ => rfl, fun _ _ _ _ _ _ us hl => match us, hl with | [_], _ => rfl, fun _ _ _ _ _ _ us hl => match us, hl with | [_, _], _ => rfl, fun _ _ _ _ _ _ us hl => match us, hl with | [_, _, _], _ => rfl, fun _ _ _ _ _ _ us hl => match us, hl with | [_, _], _ => rfl, fun _ _ _ _ _ _ us hl => match us, hl with | [_], _ => rfl, fun _ _ _ _ _ _ us hl => match us, hl with | [_], _ => rfl, fun _ _ _ _ _ _ us hl => match us, hl with | [_], _ => rfl, fun _ _ _ _ _ _ us hl => match us, hl with | [_], _ => rfl, fun _ _ _ _ _ _ us hl => match us, hl with | [_], _ => rfl, fun _ _ _ _ _ _ us hl => match us, hl with | [_, _], _ => rfl, fun _ _ _ _ _ _ us hl => match us, hl with | [_], _ => rfl, fun _ _ _ _ _ _ us hl => match us, hl with | [_, _], _ => rfl, fun _ _ _ _ _ _ us hl => match us, hl with | [_], _ => rfl, fun _ _ _ _ _ _ us hl => match us, hl with | [_], _ => rfl, fun _ _ _ _ _ _ us hl => match us, hl with | [_], _ => rfl, fun _ _ _ _ _ _ us hl => match us, hl with | [_, _], _ => rfl, fun _ _ _ _ _ _ us hl => match us, hl with | [_, _], _ => rfl, fun _ _ _ _ _ _ us hl => match us, hl with | [_, _], _ => rfl, fun _ _ _ _ _ _ us hl => match us, hl with | [_, _], _ => rfl, fun _ _ _ _ _ _ us hl => match us, hl with | [_], _ => rfl, fun _ _ _ _ _ _ us hl => match us, hl with | [_], _ => rfl, trivial⟩
end K41

end
section
set_option linter.all false
set_option maxRecDepth 100000
set_option maxHeartbeats 0
namespace K41
open PySem PySem.Spec PyProof.Rows L2 Ev
abbrev R : PySem.W.OpenRow := PySem.W.OpenLaw.row PySem.Challenge.rw_settlepages_k41_keys_lots_and_lines_refu
def fn : List He.DefD := (T ++ [dC]).map ddOf
def fa : List He.Fa := faL (T ++ [dC]) bs gd csx
abbrev hk : PySem.W.Hook := He.hookX 2 fa fn (tsOf gd) (tfL T lmn) (exL gl gd csx T lmn lch kc)
def ob (s : PySem.W.SharedT) : He.AlX := He.obsX 2 fa fn (tsOf gd) (tfL T lmn) (exL gl gd csx T lmn lch kc) (HandSHeadRun.getT s)
theorem ob_eq (s : PySem.W.SharedT) : ob s = hk.obs s.abs := He.obsX_eq (HandSHeadRun.getT_eq s)
def lo0 : List Str := ["SettleError", "InvalidParagraph", "InvalidCosts", "InvalidKey", "InvalidLot", "is_whole", "is_row_of", "ITEMS", "LONG", "DEAR_paragraphs", "WORST", "HUGE", "FULL", "SIZES", "fits_price", "fits_item", "fits_paragraph", "fits_costs", "need_paragraph", "need_costs", "first_item", "line_sums", "is_last", "fit_of", "taken_at", "led_on", "stops_of", "last_end", "kept_by", "kept_at_all"]
def lo1 : List Str := ["wished", "cheapest", "least_pair", "states_of", "fits_prices", "are_prices", "least_way", "price_paper", "is_price_paper", "CAP", "DEAR_linekeys", "fits_key", "need_key", "width_at", "alike_from", "is_good_key", "plain_place", "parted_by_tightness", "parted_by_mark", "lines_ahead", "one_or_two", "two_or_three", "parted_by_width", "parted_by_wish", "parted_by", "does_split", "unsplit_pair", "is_enough", "key_way", "parting_paragraph"]
def lo2 : List Str := ["do_split", "parting_pair", "LOT", "fits_lot", "need_lot", "is_safe_item", "dropped_way", "unsafe_pair", "dropping_way", "is_safe", "dropped_pair", "_law_cup", "_law_roll", "_law_some", "_law_error", "_law_by_paragraph", "_law_by_costs"]
def loose : List Str := lo0 ++ lo1 ++ lo2
section
open HandSHeadRun PySem PySem.W PySem.Calls PyProof.Rows
theorem runAB1 (w : World) (os : OsState) : (endF (stepQ (denQ tabQ) R.prog (setF w true)) 6000 R.prog (setF w true) os).map (fun s => (looksF R.prog (boot_heap (setF w true).params) s.abs, seenQ (PySem.W.view R.prog [83]) loose (importedModules R.prog.main.body) (fun s => xlAt (PySem.W.view R.prog [83]) [] s && recOk R.toRowW.records s) s.abs)) = some (true, openGood (PySem.W.view R.prog [83]) loose) := by
  kernel_rfl
theorem runC1 (w : World) (os : OsState) : (endF (stepQ (denQ tabQ) R.prog (setF w true)) 6000 R.prog (setF w true) os).map (fun s => ob s) = some (hk.val (setF w true)) := by
  kernel_rfl
theorem run1 (w : World) : HandSHeadRun.RunEq R (PySem.W.view R.prog [83]) hk ob 6000 loose (setF w true) := by
  intro os
  have e1 := runAB1 w os
  have e2 := runC1 w os
  obtain ⟨s, h1, h2⟩ := Option.map_eq_some_iff.mp e1
  rw [h1] at e2 ⊢
  have e3 : ob s = hk.val (setF w true) := Option.some.inj e2
  show some (_, _, _) = some (_, _, _)
  rw [e3]
  injection h2 with h3 h4
  rw [h3, h4]
end
section
open HandSHeadRun PySem PySem.W PySem.Calls PyProof.Rows
theorem runAB2 (w : World) (os : OsState) : (endF (stepQ (denQ tabQ) R.prog (setF w false)) 6000 R.prog (setF w false) os).map (fun s => (looksF R.prog (boot_heap (setF w false).params) s.abs, seenQ (PySem.W.view R.prog [83]) loose (importedModules R.prog.main.body) (fun s => xlAt (PySem.W.view R.prog [83]) [] s && recOk R.toRowW.records s) s.abs)) = some (true, openGood (PySem.W.view R.prog [83]) loose) := by
  kernel_rfl
theorem runC2 (w : World) (os : OsState) : (endF (stepQ (denQ tabQ) R.prog (setF w false)) 6000 R.prog (setF w false) os).map (fun s => ob s) = some (hk.val (setF w false)) := by
  kernel_rfl
theorem run2 (w : World) : HandSHeadRun.RunEq R (PySem.W.view R.prog [83]) hk ob 6000 loose (setF w false) := by
  intro os
  have e1 := runAB2 w os
  have e2 := runC2 w os
  obtain ⟨s, h1, h2⟩ := Option.map_eq_some_iff.mp e1
  rw [h1] at e2 ⊢
  have e3 : ob s = hk.val (setF w false) := Option.some.inj e2
  show some (_, _, _) = some (_, _, _)
  rw [e3]
  injection h2 with h3 h4
  rw [h3, h4]
end
theorem run (w : World) : HandSHeadRun.RunEq R (PySem.W.view R.prog [83]) hk ob 6000 loose w := by
  have k1 := run1 w
  have k2 := run2 w
  have e := setF_eq w
  cases h : w.params.followText "special-get-raises" with
  | true =>
    rw [h] at e
    rw [← e]
    exact k1
  | false =>
    rw [h] at e
    rw [← e]
    exact k2
end K41

end
section
set_option maxRecDepth 100000
local macro_rules | `(tactic| simp! [$ts,*]) => `(tactic| simp only [Ev.bind_ok', Ev.bind_stuck', Ev.bind_ite, Ev.of_some', Ev.of_none', Ev.of_ite, Ev.slD_val, Ev.slD_own, Ev.slD_bor, Ev.deref_d, Ev.deref_f, Ev.deref_s, Ev.tru_eq, Ev.truS_some, Ev.truth_bool, Ev.truth_int, Ev.truth_list, Ev.truth_tuple, Ev.un1S_some, Ev.bi2S_some, Ev.andK_b, Ev.orK_b, Ev.negK_i, Ev.varK_val, Ev.varK_own, Ev.varK_bor, Ev.solS_val, Ev.solS_own, Ev.sol_d, Ev.sol_f, Ev.sol_s, Ev.muS_own, Ev.muS_bor, Ev.mutAt_eq, Ev.bop_add, Ev.bop_sub, Ev.bop_mul, Ev.bop_div, Ev.bop_mod, Ev.bop_tup, Ev.bop_lst, Ev.cop_lt, Ev.cop_le, Ev.cop_gt, Ev.cop_ge, Ev.cop_eqi, Ev.cop_eqs, Ev.cop_nei, Ev.cop_nes, Ev.cop_is, Ev.cop_isNot, Ev.cop_in, Ev.is_bb, Ev.e_none, Ev.e_bool, Ev.e_int, Ev.e_str, Ev.e_var, Ev.e_glob, Ev.e_bin, Ev.e_neg, Ev.e_cmp, Ev.chnS_some, Ev.e_chn, Ev.e_not, Ev.e_and, Ev.e_or, Ev.e_ife, Ev.e_tup, Ev.e_lst, Ev.e_idx, Ev.e_isi, Ev.e_bl1, Ev.e_un, Ev.e_bl2, Ev.callK_v, Ev.callK_f, Ev.callK_v1, Ev.callK_f1, Ev.callK_v2, Ev.argK_some, Ev.e_call, Ev.argsS_nil, Ev.argsS_v, Ev.argsS_l, Ev.lends_nil, Ev.lends_v, Ev.lends_l, Ev.a_nil, Ev.a_cons, Ev.r_nil, Ev.r_cons, Ev.lendK_some, Ev.r_lend, Ev.o_no, Ev.derK_some, Ev.o_yes, Ev.t_no, Ev.t_yes, Ev.i_val, Ev.slS_some, Ev.e_slc, Ev.opt_none, Ev.opt_int, Ev.slice_list, Ev.slice_tup, Ev.e_dsp, Ev.dicS_some, Ev.e_mg2, Ev.rgK_i, Ev.i_rg1, Ev.rgK2_i, Ev.i_rg2, Ev.enK_some, Ev.i_enm, Ev.zpK_some, Ev.i_zip, Ev.c_cst, Ev.c_var, Ev.c_cmp, Ev.c_chn, Ev.c_isi, Ev.c_call, Ev.c_bl1, Ev.c_not, Ev.c_and, Ev.c_or, Ev.c_ife, Ev.seqK_nx, Ev.seqK_brk, Ev.seqK_cnt, Ev.seqK_ret, Ev.seqK_exc, Ev.seqK_stuck, Ev.seqK_ite, Ev.b_nil, Ev.b_cons, Ev.retK_d, Ev.retK_f, Ev.s_ret, Ev.s_retN, Ev.s_asg, Ev.s_ex, Ev.s_if, Ev.s_for, Ev.s_whl, Ev.s_pas, Ev.s_rse, Ev.stoK_un, Ev.stoK_val, Ev.stoK_own, Ev.asn_d, Ev.asn_f, Ev.asn_fo, Ev.asn_t, Ev.asnL_nil, Ev.asnL_cons, Ev.asnP_nil, Ev.asnP_cons, Ev.s_asp, Ev.fK_f, Ev.fK_d, Ev.fK_s, Ev.f_nil, Ev.f_cons, Ev.lendF_some, Ev.setS_own, Ev.setS_bor, Ev.setAt_eq, Ev.ixK_some, Ev.setK_l, Ev.s_sto, Ev.outs_nil, Ev.outs_v, Ev.outs_b, Ev.endK_nx, Ev.endK_ret, Ev.endK_exc, Ev.endK_stuck, Ev.endK_ite, Ev.endS_some, Ev.endCall_eq, Ev.e_emp, Ev.e_din, Ev.e_dix, Ev.sdkS_some, Ev.e_sdk, Ev.e_tin, Ev.e_tix, Ev.e_tg1, Ev.e_tg2, Ev.e_sdt, Ev.kgK_s, Ev.e_kg2, Ev.c_un, Ev.c_din, Ev.c_tin, Ev.s_dst, Ev.s_tst, Ev.isN_none, Ev.isN_bool, Ev.isN_int, Ev.isN_str, Ev.isN_list, Ev.isN_tup, Ev.isN_dict, Ev.e_mg1, Ev.appL_l, Ev.appK_l, Ev.s_app, Ev.nd_none, Ev.ty_int_none, Ev.ty_bool_none, Ev.ty_str_none, Ev.ty_tuple_none, Ev.ty_list_none, Ev.nd_bool, Ev.ty_int_bool, Ev.ty_bool_bool, Ev.ty_str_bool, Ev.ty_tuple_bool, Ev.ty_list_bool, Ev.nd_int, Ev.ty_int_int, Ev.ty_bool_int, Ev.ty_str_int, Ev.ty_tuple_int, Ev.ty_list_int, Ev.nd_str, Ev.ty_int_str, Ev.ty_bool_str, Ev.ty_str_str, Ev.ty_tuple_str, Ev.ty_list_str, Ev.nd_list, Ev.ty_int_list, Ev.ty_bool_list, Ev.ty_str_list, Ev.ty_tuple_list, Ev.ty_list_list, Ev.nd_tup, Ev.ty_int_tup, Ev.ty_bool_tup, Ev.ty_str_tup, Ev.ty_tuple_tup, Ev.ty_list_tup, Ev.nd_dict, Ev.ty_int_dict, Ev.ty_bool_dict, Ev.ty_str_dict, Ev.ty_tuple_dict, Ev.ty_list_dict, List.getElem?_cons_zero, List.getElem?_cons_succ, List.getElem?_nil, List.set_cons_zero, List.set_cons_succ, List.length_cons, List.length_nil, List.replicate_succ, List.replicate_zero, List.cons_append, List.nil_append, List.append_nil, List.nodup_nil, List.nodup_cons, List.mem_cons, List.not_mem_nil, List.isEmpty_nil, List.isEmpty_cons, Option.map_some, Option.map_none, Option.bind_some, Option.bind_none, Option.getD_some, Option.getD_none, Option.isSome_some, Option.isSome_none, Option.isNone_some, Option.isNone_none, ite_true, ite_false, if_true, if_false, decide_true, decide_false, decide_eq_true_eq, Bool.not_true, Bool.not_false, Bool.not_not, Bool.true_and, Bool.false_and, Bool.and_true, Bool.and_false, Bool.or_true, Bool.or_false, Bool.true_or, Bool.false_or, Bool.not_eq_true, Bool.not_eq_true', Bool.and_self, Bool.or_self, Bool.false_eq_true, reduceCtorEq, not_true_eq_false, not_false_eq_true, or_false, false_or, or_true, true_or, and_true, true_and, and_false, false_and, eq_self, bne_self_eq_false, Nat.reduceAdd, Nat.reduceSub, Nat.reduceLeDiff, Nat.reduceLT, Nat.reduceEqDiff, Nat.zero_add, Nat.reduceMul, Int.reduceNeg, Int.reduceAdd, Int.reduceSub, Int.reduceMul, Int.reduceLT, Int.reduceLE, Int.reduceEq, Int.reduceDiv, Int.reduceMod, Int.reduceToNat, Int.reducePow, Nat.succ_ne_zero, Nat.add_eq_zero_iff, Nat.le_refl, Nat.one_ne_zero, ↓reduceIte, Ev.SZ, $ts,*])
section
set_option maxRecDepth 100000
set_option linter.all false
set_option maxRecDepth 100000
set_option maxHeartbeats 4000000
/-! The law's cup. -/
namespace K41
open PySem Ev
abbrev P : List Df := T.map (·.df)
abbrev W : Nat := 1000000
theorem step {n i : Nat} {ss : List Sl} {df : Df} (h : P[i]? = some df) (hl : ss.length = df.np) : callN P W (n + 1) i ss = endK ss (evB (callN P W n) W df.body (ss ++ List.replicate (df.names.length - df.np) .un)) := by
  have e : callN P W (n + 1) i ss = runDef (callN P W n) W df ss := by
    show (match P[i]? with | some df => runDef (callN P W n) W df ss | none => .stuck) = _
    rw [h]
  rw [e, runDef_eq _ _ _ _ hl]
/-- the cup -/
def cupD (g m : Int) : D := .list [.int g, .int m]
def Cup (d : D) : Prop := ∃ g m : Int, d = cupD g m ∧ 0 ≤ g ∧ 0 ≤ m
theorem mulOk_r {i j : Int} (h1 : -18446744073709551616 < j) (h2 : j < 18446744073709551616) : mulOk i j = true := by
  simp [mulOk, P64, h1, h2]
theorem mulOk_l {i j : Int} (h1 : -18446744073709551616 < i) (h2 : i < 18446744073709551616) : mulOk i j = true := by
  simp [mulOk, P64, h1, h2]
theorem s_roll (n : Nat) (g m k : Int) (hk : 0 < k) (hk2 : k < 1073741824) :
    callN P W (n + 1) 57 [.bor (cupD g m), .val (.int k)] = if 0 < g then .ok false (.int (g % k)) [cupD (g / k) m] else
      .ok false (.int ((((m * 30671 + 7937) % 2147483549 * ((m * 30671 + 7937) % 2147483549 + 139)) % 2147483587 / 733) % k)) [cupD g ((m * 30671 + 7937) % 2147483549)] := by
  rw [step (df := f57) rfl rfl]
  have h1 : mulOk m 30671 = true := mulOk_r (by decide) (by decide)
  have h2 : mulOk ((m * 30671 + 7937) % 2147483549) ((m * 30671 + 7937) % 2147483549 + 139) = true := mulOk_l (by omega) (by omega)
  simp [f57, b1, idx, atI, Ev.ixN, cupD, hk, hk2, h1, h2]
theorem roll_ok (n : Nat) {c : D} (hc : Cup c) {k : Int} (hk : 0 < k) (hk2 : k < 1073741824) : ∃ (j : Int) (c' : D), callN P W (n + 1) 57 [.bor c, .val (.int k)] = .ok false (.int j) [c'] ∧ 0 ≤ j ∧ j < k ∧ Cup c' := by
  obtain ⟨g, m, rfl, hg, hm⟩ := hc
  rw [s_roll n g m k hk hk2]
  by_cases h : 0 < g
  · rw [if_pos h]
    exact ⟨_, _, rfl, Int.emod_nonneg _ (by omega), Int.emod_lt_of_pos _ hk, _, _, rfl, Int.ediv_nonneg hg (by omega), hm⟩
  · rw [if_neg h]
    exact ⟨_, _, rfl, Int.emod_nonneg _ (by omega), Int.emod_lt_of_pos _ hk, _, _, rfl, hg, Int.emod_nonneg _ (by decide)⟩
theorem some_ok (n : Nat) {c : D} (hc : Cup c) {l : List D} (hl : l ≠ []) (hl2 : l.length < 1000) : ∃ (x : D) (c' : D), callN P W (n + 2) 58 [.bor c, .val (.list l)] = .ok false x [c'] ∧ x ∈ l ∧ Cup c' := by
  have h0 : 0 < l.length := List.length_pos_iff.mpr hl
  obtain ⟨j, c', e, j0, j1, hc'⟩ := roll_ok n hc (k := l.length) (by omega) (by omega)
  have hj : j.toNat < l.length := by omega
  refine ⟨l[j.toNat], c', ?_, List.getElem_mem hj, hc'⟩
  rw [step (df := f58) rfl rfl]
  have hix : idx (.list l) (.int j) = some l[j.toNat] := by
    have : Ev.ixN l.length j = some j.toNat := by simp [Ev.ixN, j0, j1]
    simp [idx, atI, this, hj]
  simp [f58, b1, e, hix]
theorem cup_ok (n : Nat) (ns : List Int) (hlen : ns.length ≤ 63) : ∃ c, callN P W (n + 1) 56 [.val (scriptD ns)] = .ok true c [] ∧ Cup c := by
  rw [step (df := f56) rfl rfl]
  have h0 : ∃ i : Int, idx (.list (ns.map PyData.int ++ [.int 0])) (.int 0) = some (.int i) := by
    cases ns with
    | nil => exact ⟨0, rfl⟩
    | cons i l =>
      refine ⟨i, ?_⟩
      have h : (0 : Int) < (l.length : Int) + 1 + 1 := by omega
      simp [idx, atI, Ev.ixN, h]
  obtain ⟨i, hi⟩ := h0
  have hz : ns.length + 1 ≤ SZ := by
    show ns.length + 1 ≤ 16777216
    omega
  have hz2 : ns.length ≤ 16777215 := by omega
  · have e1 : bop .add (.list (ns.map PyData.int)) (.list [.int 0]) = some (.f (.list (ns.map PyData.int ++ [.int 0]))) := by
      rw [bop_lst, if_pos (by simpa using hz)]
    have hm : ∀ j : Int, mulOk j 199 = true := fun j => mulOk_r (by decide) (by decide)
    by_cases hn : i < 0
    · by_cases hg : (1000000000000000000 : Int) ≤ -i
      · refine ⟨cupD (-i / 17) ((-i * 199 + 1409) % 2077504273 + 83), ?_, _, _, rfl, Int.ediv_nonneg (by omega) (by decide), by have := Int.emod_nonneg (-i * 199 + 1409) (show (2077504273 : Int) ≠ 0 by decide); omega⟩
        simp [f56, scriptD, b1, e1, hi, hn, hg, hm, hz2, bop, SZ, cupD]
      · refine ⟨cupD 0 ((-i * 199 + 1409) % 2077504273 + 83), ?_, _, _, rfl, by decide, by have := Int.emod_nonneg (-i * 199 + 1409) (show (2077504273 : Int) ≠ 0 by decide); omega⟩
        simp [f56, scriptD, b1, e1, hi, hn, hg, hm, hz2, bop, SZ, cupD]
    · by_cases hg : (1000000000000000000 : Int) ≤ i
      · refine ⟨cupD (i / 17) ((i * 199 + 1409) % 2077504273 + 83), ?_, _, _, rfl, Int.ediv_nonneg (by omega) (by decide), by have := Int.emod_nonneg (i * 199 + 1409) (show (2077504273 : Int) ≠ 0 by decide); omega⟩
        simp [f56, scriptD, b1, e1, hi, hn, hg, hm, hz2, bop, SZ, cupD]
      · refine ⟨cupD 0 ((i * 199 + 1409) % 2077504273 + 83), ?_, _, _, rfl, by decide, by have := Int.emod_nonneg (i * 199 + 1409) (show (2077504273 : Int) ≠ 0 by decide); omega⟩
        simp [f56, scriptD, b1, e1, hi, hn, hg, hm, hz2, bop, SZ, cupD]
theorem roll_ge {N : Nat} (hN : 1 ≤ N) {c : D} (hc : Cup c) {k : Int} (hk : 0 < k) (hk2 : k < 1073741824) : ∃ (j : Int) (c' : D), callN P W N 57 [.bor c, .val (.int k)] = .ok false (.int j) [c'] ∧ 0 ≤ j ∧ j < k ∧ Cup c' := by
  obtain ⟨n, rfl⟩ := Nat.exists_eq_add_of_le hN
  rw [Nat.add_comm]
  exact roll_ok n hc hk hk2
theorem some_ge {N : Nat} (hN : 2 ≤ N) {c : D} (hc : Cup c) {l : List D} (hl : l ≠ []) (hl2 : l.length < 1000) : ∃ (x : D) (c' : D), callN P W N 58 [.bor c, .val (.list l)] = .ok false x [c'] ∧ x ∈ l ∧ Cup c' := by
  obtain ⟨n, rfl⟩ := Nat.exists_eq_add_of_le hN
  rw [Nat.add_comm]
  exact some_ok n hc hl hl2
theorem small {j : Int} (h : 0 ≤ j) (h2 : j < 1000000) : small62 j = true := by
  unfold small62 P62
  simp
  omega
theorem int_mem {x : D} {l : List Int} (h : x ∈ l.map PyData.int) : ∃ i, x = .int i ∧ i ∈ l := by
  obtain ⟨i, hi, e⟩ := List.mem_map.mp h
  exact ⟨i, e.symm, hi⟩
theorem int_in {l : List Int} {lo hi : Int} (h : (l.all fun i => decide (lo ≤ i) && decide (i ≤ hi)) = true) {i : Int} (hi' : i ∈ l) : lo ≤ i ∧ i ≤ hi := by
  have := List.all_eq_true.mp h i hi'
  simpa using this
end K41

end
end
section
set_option linter.all false
set_option maxRecDepth 100000
set_option maxHeartbeats 0
namespace K41
open PySem PySem.Spec PyProof.Rows L2 Ev
def S1 : IS := (.asg (.n 1 true) (.call 56 "_law_cup" (.cons (.var 0) .nil)))
def S2 : IS := (.asg (.n 2 false) (.tup (.cons (.tup (.cons (.call 58 "_law_some" (.lend 1 (.cons (.lst (.cons (.cst (.int 20)) (.cons (.cst (.int 30)) .nil))) .nil))) .nil)) (.cons (.call 57 "_law_roll" (.lend 1 (.cons (.cst (.int 3)) .nil))) (.cons (.call 57 "_law_roll" (.lend 1 (.cons (.cst (.int 2)) .nil))) (.cons (.call 57 "_law_roll" (.lend 1 (.cons (.cst (.int 2)) .nil))) (.cons (.tup (.cons (.call 57 "_law_roll" (.lend 1 (.cons (.cst (.int 3)) .nil))) (.cons (.call 57 "_law_roll" (.lend 1 (.cons (.cst (.int 2)) .nil))) .nil))) .nil)))))))
def S3 : IS := (.asg (.n 3 false) (.call 58 "_law_some" (.lend 1 (.cons (.lst (.cons (.cst .none) (.cons (.var 2) (.cons (.cst (.int 5)) (.cons (.lst .nil) .nil))))) .nil))))
def tl61 : IB := (.cons f61_l3 (.cons f61_l2 (.cons (.ifs (.or (.cmp .ne (.call 59 "_law_by_paragraph" (.cons (.tup .nil) (.cons (.var 2) .nil))) (.lst (.cons (.cst (.str "")) (.cons (.cst (.str "")) (.cons (.cst (.str "")) (.cons (.cst (.str "")) (.cons (.cst (.str "key")) .nil))))))) (.cmp .ne (.call 60 "_law_by_costs" (.cons (.var 2) (.cons (.tup (.cons (.cst .none) (.cons (.cst (.bool true)) (.cons (.cst (.bool true)) .nil)))) .nil))) (.bin .mul (.lst (.cons (.cst (.str "")) .nil)) (.cst (.int 4))))) (.cons (.ret (.cst (.bool false))) .nil) .nil) (.cons f61_l1 (.cons (.asg (.n 5 false) (.tup (.cons (.cst (.str "place")) (.cons (.cst (.int 0)) (.cons (.cst .none) (.cons (.cst (.int 0)) (.cons (.cst (.int 0)) (.cons (.cst (.int 0)) .nil)))))))) (.cons f61_l0 (.cons (.ret (.and (.cmp .is (.call 54 "is_safe" (.cons (.bin .mul (.tup (.cons (.var 5) .nil)) (.cst (.int 20))) .nil)) (.cst (.bool true))) (.and (.cmp .is (.call 54 "is_safe" (.cons (.tup .nil) .nil)) (.cst (.bool true))) (.cmp .is (.call 55 "dropped_pair" (.cons (.tup .nil) .nil)) (.cst .none))))) .nil)))))))
theorem body61 : f61.body = .cons S1 (.cons S2 (.cons S3 tl61)) := by kernel_rfl
def costD (w a b c d e : Int) : D := .tuple [.tuple [.int w], .int a, .int b, .int c, .tuple [.int d, .int e]]
def grp (w a : Int) : List D := [0, 1].flatMap fun b => [0, 1].flatMap fun c => [0, 1, 2].flatMap fun d => [0, 1].map fun e => costD w a b c d e
def isC (o : CR) : Bool := match o with
  | .ok false (.bool true) [] => true
  | _ => false
theorem isC_ok {o : CR} (h : isC o = true) : o = .ok false (.bool true) [] := by
  unfold isC at h
  split at h
  · rfl
  · cases h
def tryC (SD cp v3 c : D) : Bool := isC (endK [.val SD] (evB (callN P W 59) W tl61 [.val SD, .own cp, .val c, .val v3, .un, .un, .un]))
end K41

end
section
set_option linter.all false
set_option maxRecDepth 100000
set_option maxHeartbeats 0
namespace K41
open PySem PySem.Spec PyProof.Rows L2 Ev
theorem c_20_0_0_0_0_0 (SD cp v3 : D) : tryC SD cp v3 (costD 20 0 0 0 0 0) = true := by kernel_rfl
theorem c_20_0_0_0_0_1 (SD cp v3 : D) : tryC SD cp v3 (costD 20 0 0 0 0 1) = true := by kernel_rfl
theorem c_20_0_0_0_1_0 (SD cp v3 : D) : tryC SD cp v3 (costD 20 0 0 0 1 0) = true := by kernel_rfl
theorem c_20_0_0_0_1_1 (SD cp v3 : D) : tryC SD cp v3 (costD 20 0 0 0 1 1) = true := by kernel_rfl
theorem c_20_0_0_0_2_0 (SD cp v3 : D) : tryC SD cp v3 (costD 20 0 0 0 2 0) = true := by kernel_rfl
theorem c_20_0_0_0_2_1 (SD cp v3 : D) : tryC SD cp v3 (costD 20 0 0 0 2 1) = true := by kernel_rfl
theorem c_20_0_0_1_0_0 (SD cp v3 : D) : tryC SD cp v3 (costD 20 0 0 1 0 0) = true := by kernel_rfl
theorem c_20_0_0_1_0_1 (SD cp v3 : D) : tryC SD cp v3 (costD 20 0 0 1 0 1) = true := by kernel_rfl
theorem c_20_0_0_1_1_0 (SD cp v3 : D) : tryC SD cp v3 (costD 20 0 0 1 1 0) = true := by kernel_rfl
theorem c_20_0_0_1_1_1 (SD cp v3 : D) : tryC SD cp v3 (costD 20 0 0 1 1 1) = true := by kernel_rfl
theorem c_20_0_0_1_2_0 (SD cp v3 : D) : tryC SD cp v3 (costD 20 0 0 1 2 0) = true := by kernel_rfl
theorem c_20_0_0_1_2_1 (SD cp v3 : D) : tryC SD cp v3 (costD 20 0 0 1 2 1) = true := by kernel_rfl
theorem c_20_0_1_0_0_0 (SD cp v3 : D) : tryC SD cp v3 (costD 20 0 1 0 0 0) = true := by kernel_rfl
theorem c_20_0_1_0_0_1 (SD cp v3 : D) : tryC SD cp v3 (costD 20 0 1 0 0 1) = true := by kernel_rfl
theorem c_20_0_1_0_1_0 (SD cp v3 : D) : tryC SD cp v3 (costD 20 0 1 0 1 0) = true := by kernel_rfl
theorem c_20_0_1_0_1_1 (SD cp v3 : D) : tryC SD cp v3 (costD 20 0 1 0 1 1) = true := by kernel_rfl
theorem c_20_0_1_0_2_0 (SD cp v3 : D) : tryC SD cp v3 (costD 20 0 1 0 2 0) = true := by kernel_rfl
theorem c_20_0_1_0_2_1 (SD cp v3 : D) : tryC SD cp v3 (costD 20 0 1 0 2 1) = true := by kernel_rfl
theorem c_20_0_1_1_0_0 (SD cp v3 : D) : tryC SD cp v3 (costD 20 0 1 1 0 0) = true := by kernel_rfl
theorem c_20_0_1_1_0_1 (SD cp v3 : D) : tryC SD cp v3 (costD 20 0 1 1 0 1) = true := by kernel_rfl
theorem c_20_0_1_1_1_0 (SD cp v3 : D) : tryC SD cp v3 (costD 20 0 1 1 1 0) = true := by kernel_rfl
theorem c_20_0_1_1_1_1 (SD cp v3 : D) : tryC SD cp v3 (costD 20 0 1 1 1 1) = true := by kernel_rfl
theorem c_20_0_1_1_2_0 (SD cp v3 : D) : tryC SD cp v3 (costD 20 0 1 1 2 0) = true := by kernel_rfl
theorem c_20_0_1_1_2_1 (SD cp v3 : D) : tryC SD cp v3 (costD 20 0 1 1 2 1) = true := by kernel_rfl
theorem g1 (SD cp v3 : D) : (grp 20 0).all (tryC SD cp v3) = true := by
  simp only [grp, List.flatMap_cons, List.flatMap_nil, List.map_cons, List.map_nil, List.cons_append, List.nil_append, List.append_nil, List.all_cons, List.all_nil, c_20_0_0_0_0_0, c_20_0_0_0_0_1, c_20_0_0_0_1_0, c_20_0_0_0_1_1, c_20_0_0_0_2_0, c_20_0_0_0_2_1, c_20_0_0_1_0_0, c_20_0_0_1_0_1, c_20_0_0_1_1_0, c_20_0_0_1_1_1, c_20_0_0_1_2_0, c_20_0_0_1_2_1, c_20_0_1_0_0_0, c_20_0_1_0_0_1, c_20_0_1_0_1_0, c_20_0_1_0_1_1, c_20_0_1_0_2_0, c_20_0_1_0_2_1, c_20_0_1_1_0_0, c_20_0_1_1_0_1, c_20_0_1_1_1_0, c_20_0_1_1_1_1, c_20_0_1_1_2_0, c_20_0_1_1_2_1, Bool.and_true]
end K41

end
section
set_option linter.all false
set_option maxRecDepth 100000
set_option maxHeartbeats 0
namespace K41
open PySem PySem.Spec PyProof.Rows L2 Ev
theorem c_20_1_0_0_0_0 (SD cp v3 : D) : tryC SD cp v3 (costD 20 1 0 0 0 0) = true := by kernel_rfl
theorem c_20_1_0_0_0_1 (SD cp v3 : D) : tryC SD cp v3 (costD 20 1 0 0 0 1) = true := by kernel_rfl
theorem c_20_1_0_0_1_0 (SD cp v3 : D) : tryC SD cp v3 (costD 20 1 0 0 1 0) = true := by kernel_rfl
theorem c_20_1_0_0_1_1 (SD cp v3 : D) : tryC SD cp v3 (costD 20 1 0 0 1 1) = true := by kernel_rfl
theorem c_20_1_0_0_2_0 (SD cp v3 : D) : tryC SD cp v3 (costD 20 1 0 0 2 0) = true := by kernel_rfl
theorem c_20_1_0_0_2_1 (SD cp v3 : D) : tryC SD cp v3 (costD 20 1 0 0 2 1) = true := by kernel_rfl
theorem c_20_1_0_1_0_0 (SD cp v3 : D) : tryC SD cp v3 (costD 20 1 0 1 0 0) = true := by kernel_rfl
theorem c_20_1_0_1_0_1 (SD cp v3 : D) : tryC SD cp v3 (costD 20 1 0 1 0 1) = true := by kernel_rfl
theorem c_20_1_0_1_1_0 (SD cp v3 : D) : tryC SD cp v3 (costD 20 1 0 1 1 0) = true := by kernel_rfl
theorem c_20_1_0_1_1_1 (SD cp v3 : D) : tryC SD cp v3 (costD 20 1 0 1 1 1) = true := by kernel_rfl
theorem c_20_1_0_1_2_0 (SD cp v3 : D) : tryC SD cp v3 (costD 20 1 0 1 2 0) = true := by kernel_rfl
theorem c_20_1_0_1_2_1 (SD cp v3 : D) : tryC SD cp v3 (costD 20 1 0 1 2 1) = true := by kernel_rfl
theorem c_20_1_1_0_0_0 (SD cp v3 : D) : tryC SD cp v3 (costD 20 1 1 0 0 0) = true := by kernel_rfl
theorem c_20_1_1_0_0_1 (SD cp v3 : D) : tryC SD cp v3 (costD 20 1 1 0 0 1) = true := by kernel_rfl
theorem c_20_1_1_0_1_0 (SD cp v3 : D) : tryC SD cp v3 (costD 20 1 1 0 1 0) = true := by kernel_rfl
theorem c_20_1_1_0_1_1 (SD cp v3 : D) : tryC SD cp v3 (costD 20 1 1 0 1 1) = true := by kernel_rfl
theorem c_20_1_1_0_2_0 (SD cp v3 : D) : tryC SD cp v3 (costD 20 1 1 0 2 0) = true := by kernel_rfl
theorem c_20_1_1_0_2_1 (SD cp v3 : D) : tryC SD cp v3 (costD 20 1 1 0 2 1) = true := by kernel_rfl
theorem c_20_1_1_1_0_0 (SD cp v3 : D) : tryC SD cp v3 (costD 20 1 1 1 0 0) = true := by kernel_rfl
theorem c_20_1_1_1_0_1 (SD cp v3 : D) : tryC SD cp v3 (costD 20 1 1 1 0 1) = true := by kernel_rfl
theorem c_20_1_1_1_1_0 (SD cp v3 : D) : tryC SD cp v3 (costD 20 1 1 1 1 0) = true := by kernel_rfl
theorem c_20_1_1_1_1_1 (SD cp v3 : D) : tryC SD cp v3 (costD 20 1 1 1 1 1) = true := by kernel_rfl
theorem c_20_1_1_1_2_0 (SD cp v3 : D) : tryC SD cp v3 (costD 20 1 1 1 2 0) = true := by kernel_rfl
theorem c_20_1_1_1_2_1 (SD cp v3 : D) : tryC SD cp v3 (costD 20 1 1 1 2 1) = true := by kernel_rfl
theorem g2 (SD cp v3 : D) : (grp 20 1).all (tryC SD cp v3) = true := by
  simp only [grp, List.flatMap_cons, List.flatMap_nil, List.map_cons, List.map_nil, List.cons_append, List.nil_append, List.append_nil, List.all_cons, List.all_nil, c_20_1_0_0_0_0, c_20_1_0_0_0_1, c_20_1_0_0_1_0, c_20_1_0_0_1_1, c_20_1_0_0_2_0, c_20_1_0_0_2_1, c_20_1_0_1_0_0, c_20_1_0_1_0_1, c_20_1_0_1_1_0, c_20_1_0_1_1_1, c_20_1_0_1_2_0, c_20_1_0_1_2_1, c_20_1_1_0_0_0, c_20_1_1_0_0_1, c_20_1_1_0_1_0, c_20_1_1_0_1_1, c_20_1_1_0_2_0, c_20_1_1_0_2_1, c_20_1_1_1_0_0, c_20_1_1_1_0_1, c_20_1_1_1_1_0, c_20_1_1_1_1_1, c_20_1_1_1_2_0, c_20_1_1_1_2_1, Bool.and_true]
end K41

end
section
set_option linter.all false
set_option maxRecDepth 100000
set_option maxHeartbeats 0
namespace K41
open PySem PySem.Spec PyProof.Rows L2 Ev
theorem c_20_2_0_0_0_0 (SD cp v3 : D) : tryC SD cp v3 (costD 20 2 0 0 0 0) = true := by kernel_rfl
theorem c_20_2_0_0_0_1 (SD cp v3 : D) : tryC SD cp v3 (costD 20 2 0 0 0 1) = true := by kernel_rfl
theorem c_20_2_0_0_1_0 (SD cp v3 : D) : tryC SD cp v3 (costD 20 2 0 0 1 0) = true := by kernel_rfl
theorem c_20_2_0_0_1_1 (SD cp v3 : D) : tryC SD cp v3 (costD 20 2 0 0 1 1) = true := by kernel_rfl
theorem c_20_2_0_0_2_0 (SD cp v3 : D) : tryC SD cp v3 (costD 20 2 0 0 2 0) = true := by kernel_rfl
theorem c_20_2_0_0_2_1 (SD cp v3 : D) : tryC SD cp v3 (costD 20 2 0 0 2 1) = true := by kernel_rfl
theorem c_20_2_0_1_0_0 (SD cp v3 : D) : tryC SD cp v3 (costD 20 2 0 1 0 0) = true := by kernel_rfl
theorem c_20_2_0_1_0_1 (SD cp v3 : D) : tryC SD cp v3 (costD 20 2 0 1 0 1) = true := by kernel_rfl
theorem c_20_2_0_1_1_0 (SD cp v3 : D) : tryC SD cp v3 (costD 20 2 0 1 1 0) = true := by kernel_rfl
theorem c_20_2_0_1_1_1 (SD cp v3 : D) : tryC SD cp v3 (costD 20 2 0 1 1 1) = true := by kernel_rfl
theorem c_20_2_0_1_2_0 (SD cp v3 : D) : tryC SD cp v3 (costD 20 2 0 1 2 0) = true := by kernel_rfl
theorem c_20_2_0_1_2_1 (SD cp v3 : D) : tryC SD cp v3 (costD 20 2 0 1 2 1) = true := by kernel_rfl
theorem c_20_2_1_0_0_0 (SD cp v3 : D) : tryC SD cp v3 (costD 20 2 1 0 0 0) = true := by kernel_rfl
theorem c_20_2_1_0_0_1 (SD cp v3 : D) : tryC SD cp v3 (costD 20 2 1 0 0 1) = true := by kernel_rfl
theorem c_20_2_1_0_1_0 (SD cp v3 : D) : tryC SD cp v3 (costD 20 2 1 0 1 0) = true := by kernel_rfl
theorem c_20_2_1_0_1_1 (SD cp v3 : D) : tryC SD cp v3 (costD 20 2 1 0 1 1) = true := by kernel_rfl
theorem c_20_2_1_0_2_0 (SD cp v3 : D) : tryC SD cp v3 (costD 20 2 1 0 2 0) = true := by kernel_rfl
theorem c_20_2_1_0_2_1 (SD cp v3 : D) : tryC SD cp v3 (costD 20 2 1 0 2 1) = true := by kernel_rfl
theorem c_20_2_1_1_0_0 (SD cp v3 : D) : tryC SD cp v3 (costD 20 2 1 1 0 0) = true := by kernel_rfl
theorem c_20_2_1_1_0_1 (SD cp v3 : D) : tryC SD cp v3 (costD 20 2 1 1 0 1) = true := by kernel_rfl
theorem c_20_2_1_1_1_0 (SD cp v3 : D) : tryC SD cp v3 (costD 20 2 1 1 1 0) = true := by kernel_rfl
theorem c_20_2_1_1_1_1 (SD cp v3 : D) : tryC SD cp v3 (costD 20 2 1 1 1 1) = true := by kernel_rfl
theorem c_20_2_1_1_2_0 (SD cp v3 : D) : tryC SD cp v3 (costD 20 2 1 1 2 0) = true := by kernel_rfl
theorem c_20_2_1_1_2_1 (SD cp v3 : D) : tryC SD cp v3 (costD 20 2 1 1 2 1) = true := by kernel_rfl
theorem g3 (SD cp v3 : D) : (grp 20 2).all (tryC SD cp v3) = true := by
  simp only [grp, List.flatMap_cons, List.flatMap_nil, List.map_cons, List.map_nil, List.cons_append, List.nil_append, List.append_nil, List.all_cons, List.all_nil, c_20_2_0_0_0_0, c_20_2_0_0_0_1, c_20_2_0_0_1_0, c_20_2_0_0_1_1, c_20_2_0_0_2_0, c_20_2_0_0_2_1, c_20_2_0_1_0_0, c_20_2_0_1_0_1, c_20_2_0_1_1_0, c_20_2_0_1_1_1, c_20_2_0_1_2_0, c_20_2_0_1_2_1, c_20_2_1_0_0_0, c_20_2_1_0_0_1, c_20_2_1_0_1_0, c_20_2_1_0_1_1, c_20_2_1_0_2_0, c_20_2_1_0_2_1, c_20_2_1_1_0_0, c_20_2_1_1_0_1, c_20_2_1_1_1_0, c_20_2_1_1_1_1, c_20_2_1_1_2_0, c_20_2_1_1_2_1, Bool.and_true]
end K41

end
section
set_option linter.all false
set_option maxRecDepth 100000
set_option maxHeartbeats 0
namespace K41
open PySem PySem.Spec PyProof.Rows L2 Ev
theorem c_30_0_0_0_0_0 (SD cp v3 : D) : tryC SD cp v3 (costD 30 0 0 0 0 0) = true := by kernel_rfl
theorem c_30_0_0_0_0_1 (SD cp v3 : D) : tryC SD cp v3 (costD 30 0 0 0 0 1) = true := by kernel_rfl
theorem c_30_0_0_0_1_0 (SD cp v3 : D) : tryC SD cp v3 (costD 30 0 0 0 1 0) = true := by kernel_rfl
theorem c_30_0_0_0_1_1 (SD cp v3 : D) : tryC SD cp v3 (costD 30 0 0 0 1 1) = true := by kernel_rfl
theorem c_30_0_0_0_2_0 (SD cp v3 : D) : tryC SD cp v3 (costD 30 0 0 0 2 0) = true := by kernel_rfl
theorem c_30_0_0_0_2_1 (SD cp v3 : D) : tryC SD cp v3 (costD 30 0 0 0 2 1) = true := by kernel_rfl
theorem c_30_0_0_1_0_0 (SD cp v3 : D) : tryC SD cp v3 (costD 30 0 0 1 0 0) = true := by kernel_rfl
theorem c_30_0_0_1_0_1 (SD cp v3 : D) : tryC SD cp v3 (costD 30 0 0 1 0 1) = true := by kernel_rfl
theorem c_30_0_0_1_1_0 (SD cp v3 : D) : tryC SD cp v3 (costD 30 0 0 1 1 0) = true := by kernel_rfl
theorem c_30_0_0_1_1_1 (SD cp v3 : D) : tryC SD cp v3 (costD 30 0 0 1 1 1) = true := by kernel_rfl
theorem c_30_0_0_1_2_0 (SD cp v3 : D) : tryC SD cp v3 (costD 30 0 0 1 2 0) = true := by kernel_rfl
theorem c_30_0_0_1_2_1 (SD cp v3 : D) : tryC SD cp v3 (costD 30 0 0 1 2 1) = true := by kernel_rfl
theorem c_30_0_1_0_0_0 (SD cp v3 : D) : tryC SD cp v3 (costD 30 0 1 0 0 0) = true := by kernel_rfl
theorem c_30_0_1_0_0_1 (SD cp v3 : D) : tryC SD cp v3 (costD 30 0 1 0 0 1) = true := by kernel_rfl
theorem c_30_0_1_0_1_0 (SD cp v3 : D) : tryC SD cp v3 (costD 30 0 1 0 1 0) = true := by kernel_rfl
theorem c_30_0_1_0_1_1 (SD cp v3 : D) : tryC SD cp v3 (costD 30 0 1 0 1 1) = true := by kernel_rfl
theorem c_30_0_1_0_2_0 (SD cp v3 : D) : tryC SD cp v3 (costD 30 0 1 0 2 0) = true := by kernel_rfl
theorem c_30_0_1_0_2_1 (SD cp v3 : D) : tryC SD cp v3 (costD 30 0 1 0 2 1) = true := by kernel_rfl
theorem c_30_0_1_1_0_0 (SD cp v3 : D) : tryC SD cp v3 (costD 30 0 1 1 0 0) = true := by kernel_rfl
theorem c_30_0_1_1_0_1 (SD cp v3 : D) : tryC SD cp v3 (costD 30 0 1 1 0 1) = true := by kernel_rfl
theorem c_30_0_1_1_1_0 (SD cp v3 : D) : tryC SD cp v3 (costD 30 0 1 1 1 0) = true := by kernel_rfl
theorem c_30_0_1_1_1_1 (SD cp v3 : D) : tryC SD cp v3 (costD 30 0 1 1 1 1) = true := by kernel_rfl
theorem c_30_0_1_1_2_0 (SD cp v3 : D) : tryC SD cp v3 (costD 30 0 1 1 2 0) = true := by kernel_rfl
theorem c_30_0_1_1_2_1 (SD cp v3 : D) : tryC SD cp v3 (costD 30 0 1 1 2 1) = true := by kernel_rfl
theorem g4 (SD cp v3 : D) : (grp 30 0).all (tryC SD cp v3) = true := by
  simp only [grp, List.flatMap_cons, List.flatMap_nil, List.map_cons, List.map_nil, List.cons_append, List.nil_append, List.append_nil, List.all_cons, List.all_nil, c_30_0_0_0_0_0, c_30_0_0_0_0_1, c_30_0_0_0_1_0, c_30_0_0_0_1_1, c_30_0_0_0_2_0, c_30_0_0_0_2_1, c_30_0_0_1_0_0, c_30_0_0_1_0_1, c_30_0_0_1_1_0, c_30_0_0_1_1_1, c_30_0_0_1_2_0, c_30_0_0_1_2_1, c_30_0_1_0_0_0, c_30_0_1_0_0_1, c_30_0_1_0_1_0, c_30_0_1_0_1_1, c_30_0_1_0_2_0, c_30_0_1_0_2_1, c_30_0_1_1_0_0, c_30_0_1_1_0_1, c_30_0_1_1_1_0, c_30_0_1_1_1_1, c_30_0_1_1_2_0, c_30_0_1_1_2_1, Bool.and_true]
end K41

end
section
set_option linter.all false
set_option maxRecDepth 100000
set_option maxHeartbeats 0
namespace K41
open PySem PySem.Spec PyProof.Rows L2 Ev
theorem c_30_1_0_0_0_0 (SD cp v3 : D) : tryC SD cp v3 (costD 30 1 0 0 0 0) = true := by kernel_rfl
theorem c_30_1_0_0_0_1 (SD cp v3 : D) : tryC SD cp v3 (costD 30 1 0 0 0 1) = true := by kernel_rfl
theorem c_30_1_0_0_1_0 (SD cp v3 : D) : tryC SD cp v3 (costD 30 1 0 0 1 0) = true := by kernel_rfl
theorem c_30_1_0_0_1_1 (SD cp v3 : D) : tryC SD cp v3 (costD 30 1 0 0 1 1) = true := by kernel_rfl
theorem c_30_1_0_0_2_0 (SD cp v3 : D) : tryC SD cp v3 (costD 30 1 0 0 2 0) = true := by kernel_rfl
theorem c_30_1_0_0_2_1 (SD cp v3 : D) : tryC SD cp v3 (costD 30 1 0 0 2 1) = true := by kernel_rfl
theorem c_30_1_0_1_0_0 (SD cp v3 : D) : tryC SD cp v3 (costD 30 1 0 1 0 0) = true := by kernel_rfl
theorem c_30_1_0_1_0_1 (SD cp v3 : D) : tryC SD cp v3 (costD 30 1 0 1 0 1) = true := by kernel_rfl
theorem c_30_1_0_1_1_0 (SD cp v3 : D) : tryC SD cp v3 (costD 30 1 0 1 1 0) = true := by kernel_rfl
theorem c_30_1_0_1_1_1 (SD cp v3 : D) : tryC SD cp v3 (costD 30 1 0 1 1 1) = true := by kernel_rfl
theorem c_30_1_0_1_2_0 (SD cp v3 : D) : tryC SD cp v3 (costD 30 1 0 1 2 0) = true := by kernel_rfl
theorem c_30_1_0_1_2_1 (SD cp v3 : D) : tryC SD cp v3 (costD 30 1 0 1 2 1) = true := by kernel_rfl
theorem c_30_1_1_0_0_0 (SD cp v3 : D) : tryC SD cp v3 (costD 30 1 1 0 0 0) = true := by kernel_rfl
theorem c_30_1_1_0_0_1 (SD cp v3 : D) : tryC SD cp v3 (costD 30 1 1 0 0 1) = true := by kernel_rfl
theorem c_30_1_1_0_1_0 (SD cp v3 : D) : tryC SD cp v3 (costD 30 1 1 0 1 0) = true := by kernel_rfl
theorem c_30_1_1_0_1_1 (SD cp v3 : D) : tryC SD cp v3 (costD 30 1 1 0 1 1) = true := by kernel_rfl
theorem c_30_1_1_0_2_0 (SD cp v3 : D) : tryC SD cp v3 (costD 30 1 1 0 2 0) = true := by kernel_rfl
theorem c_30_1_1_0_2_1 (SD cp v3 : D) : tryC SD cp v3 (costD 30 1 1 0 2 1) = true := by kernel_rfl
theorem c_30_1_1_1_0_0 (SD cp v3 : D) : tryC SD cp v3 (costD 30 1 1 1 0 0) = true := by kernel_rfl
theorem c_30_1_1_1_0_1 (SD cp v3 : D) : tryC SD cp v3 (costD 30 1 1 1 0 1) = true := by kernel_rfl
theorem c_30_1_1_1_1_0 (SD cp v3 : D) : tryC SD cp v3 (costD 30 1 1 1 1 0) = true := by kernel_rfl
theorem c_30_1_1_1_1_1 (SD cp v3 : D) : tryC SD cp v3 (costD 30 1 1 1 1 1) = true := by kernel_rfl
theorem c_30_1_1_1_2_0 (SD cp v3 : D) : tryC SD cp v3 (costD 30 1 1 1 2 0) = true := by kernel_rfl
theorem c_30_1_1_1_2_1 (SD cp v3 : D) : tryC SD cp v3 (costD 30 1 1 1 2 1) = true := by kernel_rfl
theorem g5 (SD cp v3 : D) : (grp 30 1).all (tryC SD cp v3) = true := by
  simp only [grp, List.flatMap_cons, List.flatMap_nil, List.map_cons, List.map_nil, List.cons_append, List.nil_append, List.append_nil, List.all_cons, List.all_nil, c_30_1_0_0_0_0, c_30_1_0_0_0_1, c_30_1_0_0_1_0, c_30_1_0_0_1_1, c_30_1_0_0_2_0, c_30_1_0_0_2_1, c_30_1_0_1_0_0, c_30_1_0_1_0_1, c_30_1_0_1_1_0, c_30_1_0_1_1_1, c_30_1_0_1_2_0, c_30_1_0_1_2_1, c_30_1_1_0_0_0, c_30_1_1_0_0_1, c_30_1_1_0_1_0, c_30_1_1_0_1_1, c_30_1_1_0_2_0, c_30_1_1_0_2_1, c_30_1_1_1_0_0, c_30_1_1_1_0_1, c_30_1_1_1_1_0, c_30_1_1_1_1_1, c_30_1_1_1_2_0, c_30_1_1_1_2_1, Bool.and_true]
end K41

end
section
set_option linter.all false
set_option maxRecDepth 100000
set_option maxHeartbeats 0
namespace K41
open PySem PySem.Spec PyProof.Rows L2 Ev
theorem c_30_2_0_0_0_0 (SD cp v3 : D) : tryC SD cp v3 (costD 30 2 0 0 0 0) = true := by kernel_rfl
theorem c_30_2_0_0_0_1 (SD cp v3 : D) : tryC SD cp v3 (costD 30 2 0 0 0 1) = true := by kernel_rfl
theorem c_30_2_0_0_1_0 (SD cp v3 : D) : tryC SD cp v3 (costD 30 2 0 0 1 0) = true := by kernel_rfl
theorem c_30_2_0_0_1_1 (SD cp v3 : D) : tryC SD cp v3 (costD 30 2 0 0 1 1) = true := by kernel_rfl
theorem c_30_2_0_0_2_0 (SD cp v3 : D) : tryC SD cp v3 (costD 30 2 0 0 2 0) = true := by kernel_rfl
theorem c_30_2_0_0_2_1 (SD cp v3 : D) : tryC SD cp v3 (costD 30 2 0 0 2 1) = true := by kernel_rfl
theorem c_30_2_0_1_0_0 (SD cp v3 : D) : tryC SD cp v3 (costD 30 2 0 1 0 0) = true := by kernel_rfl
theorem c_30_2_0_1_0_1 (SD cp v3 : D) : tryC SD cp v3 (costD 30 2 0 1 0 1) = true := by kernel_rfl
theorem c_30_2_0_1_1_0 (SD cp v3 : D) : tryC SD cp v3 (costD 30 2 0 1 1 0) = true := by kernel_rfl
theorem c_30_2_0_1_1_1 (SD cp v3 : D) : tryC SD cp v3 (costD 30 2 0 1 1 1) = true := by kernel_rfl
theorem c_30_2_0_1_2_0 (SD cp v3 : D) : tryC SD cp v3 (costD 30 2 0 1 2 0) = true := by kernel_rfl
theorem c_30_2_0_1_2_1 (SD cp v3 : D) : tryC SD cp v3 (costD 30 2 0 1 2 1) = true := by kernel_rfl
theorem c_30_2_1_0_0_0 (SD cp v3 : D) : tryC SD cp v3 (costD 30 2 1 0 0 0) = true := by kernel_rfl
theorem c_30_2_1_0_0_1 (SD cp v3 : D) : tryC SD cp v3 (costD 30 2 1 0 0 1) = true := by kernel_rfl
theorem c_30_2_1_0_1_0 (SD cp v3 : D) : tryC SD cp v3 (costD 30 2 1 0 1 0) = true := by kernel_rfl
theorem c_30_2_1_0_1_1 (SD cp v3 : D) : tryC SD cp v3 (costD 30 2 1 0 1 1) = true := by kernel_rfl
theorem c_30_2_1_0_2_0 (SD cp v3 : D) : tryC SD cp v3 (costD 30 2 1 0 2 0) = true := by kernel_rfl
theorem c_30_2_1_0_2_1 (SD cp v3 : D) : tryC SD cp v3 (costD 30 2 1 0 2 1) = true := by kernel_rfl
theorem c_30_2_1_1_0_0 (SD cp v3 : D) : tryC SD cp v3 (costD 30 2 1 1 0 0) = true := by kernel_rfl
theorem c_30_2_1_1_0_1 (SD cp v3 : D) : tryC SD cp v3 (costD 30 2 1 1 0 1) = true := by kernel_rfl
theorem c_30_2_1_1_1_0 (SD cp v3 : D) : tryC SD cp v3 (costD 30 2 1 1 1 0) = true := by kernel_rfl
theorem c_30_2_1_1_1_1 (SD cp v3 : D) : tryC SD cp v3 (costD 30 2 1 1 1 1) = true := by kernel_rfl
theorem c_30_2_1_1_2_0 (SD cp v3 : D) : tryC SD cp v3 (costD 30 2 1 1 2 0) = true := by kernel_rfl
theorem c_30_2_1_1_2_1 (SD cp v3 : D) : tryC SD cp v3 (costD 30 2 1 1 2 1) = true := by kernel_rfl
theorem g6 (SD cp v3 : D) : (grp 30 2).all (tryC SD cp v3) = true := by
  simp only [grp, List.flatMap_cons, List.flatMap_nil, List.map_cons, List.map_nil, List.cons_append, List.nil_append, List.append_nil, List.all_cons, List.all_nil, c_30_2_0_0_0_0, c_30_2_0_0_0_1, c_30_2_0_0_1_0, c_30_2_0_0_1_1, c_30_2_0_0_2_0, c_30_2_0_0_2_1, c_30_2_0_1_0_0, c_30_2_0_1_0_1, c_30_2_0_1_1_0, c_30_2_0_1_1_1, c_30_2_0_1_2_0, c_30_2_0_1_2_1, c_30_2_1_0_0_0, c_30_2_1_0_0_1, c_30_2_1_0_1_0, c_30_2_1_0_1_1, c_30_2_1_0_2_0, c_30_2_1_0_2_1, c_30_2_1_1_0_0, c_30_2_1_1_0_1, c_30_2_1_1_1_0, c_30_2_1_1_1_1, c_30_2_1_1_2_0, c_30_2_1_1_2_1, Bool.and_true]
end K41

end
section
set_option linter.all false
set_option maxRecDepth 100000
set_option maxHeartbeats 0
namespace K41
open PySem PySem.Spec PyProof.Rows L2 Ev
abbrev Pure : Prop := ∀ ns : List Int, ns.length ≤ 63 → callN (T.map (·.df)) 1000000 60 61 [.val (scriptD ns)] = .ok false (.bool true) []
end K41
open PySem PySem.W PySem.Calls PyProof.Rows
theorem K41.fin_law (hp : K41.Pure) : PySem.Challenge.rw_settlepages_k41_keys_lots_and_lines_refu.Holds := by
  w_on; o_law
  refine HandSHeadRun.head_any (r := OpenLaw.row PySem.Challenge.rw_settlepages_k41_keys_lots_and_lines_refu) (q := view (OpenLaw.row PySem.Challenge.rw_settlepages_k41_keys_lots_and_lines_refu).prog [83]) (H := K41.hk) (ob := K41.ob) (M := 6000) (loose := K41.loose) (d := HandSHeadRun.topDef (OpenLaw.row PySem.Challenge.rw_settlepages_k41_keys_lots_and_lines_refu).prog 83) (kwd := []) K41.ob_eq
    (by kernel_rfl) (fun s => by kernel_rfl) K41.run (by kernel_rfl) (by kernel_rfl) (by kernel_rfl) (by rfl) (by first | assumption | decide +kernel) (by decide +kernel) ⟨rfl, rfl, rfl, rfl, rfl, by decide +kernel⟩ ?hw ?hc
  case hw => w_witness2
  case hc =>
    refine LamX.walk_ofTsE (l := PySem.Challenge.rw_settlepages_k41_keys_lots_and_lines_refu) (n := 63) (k := 180) (x := "_law_script") (CX := fun _ => L2.CX0) rfl (by decide) (by kernel_rfl) ⟨rfl, by decide, by decide⟩ ?F (fun _ _ _ _ _ z => z)
    intro w mg fa h Y G hmg0
    obtain ⟨K, KX, c⟩ := Y
    have hmg : mg ("law" : PySem.Str) = some (.ref fa) := by
      have e : (HandSHeadRun.topDef (OpenLaw.row PySem.Challenge.rw_settlepages_k41_keys_lots_and_lines_refu).prog 83).name = ("law" : PySem.Str) := by kernel_rfl
      rw [← e]
      exact hmg0
    exact ⟨K, KX, Ev.facts_ofL (P := (PySem.Challenge.rw_settlepages_k41_keys_lots_and_lines_refu).prog) (w := w) (T := K41.T) (dC := K41.dC) (bs := K41.bs) (gl := K41.gl) (W := 1000000) (n := 60) (il := 61) (y := "_law_script") K41.hT K41.hB (by kernel_rfl) (d := ⟨K41.f61, L2.defArgs (K41.st 83), L2.defBody (K41.st 83), L2.defScope (K41.st 83), "law"⟩) rfl rfl hp K41.hC KX G hmg c⟩

end
section
set_option maxRecDepth 100000
local macro_rules | `(tactic| simp! [$ts,*]) => `(tactic| simp only [Ev.bind_ok', Ev.bind_stuck', Ev.bind_ite, Ev.of_some', Ev.of_none', Ev.of_ite, Ev.slD_val, Ev.slD_own, Ev.slD_bor, Ev.deref_d, Ev.deref_f, Ev.deref_s, Ev.tru_eq, Ev.truS_some, Ev.truth_bool, Ev.truth_int, Ev.truth_list, Ev.truth_tuple, Ev.un1S_some, Ev.bi2S_some, Ev.andK_b, Ev.orK_b, Ev.negK_i, Ev.varK_val, Ev.varK_own, Ev.varK_bor, Ev.solS_val, Ev.solS_own, Ev.sol_d, Ev.sol_f, Ev.sol_s, Ev.muS_own, Ev.muS_bor, Ev.mutAt_eq, Ev.bop_add, Ev.bop_sub, Ev.bop_mul, Ev.bop_div, Ev.bop_mod, Ev.bop_tup, Ev.bop_lst, Ev.cop_lt, Ev.cop_le, Ev.cop_gt, Ev.cop_ge, Ev.cop_eqi, Ev.cop_eqs, Ev.cop_nei, Ev.cop_nes, Ev.cop_is, Ev.cop_isNot, Ev.cop_in, Ev.is_bb, Ev.e_none, Ev.e_bool, Ev.e_int, Ev.e_str, Ev.e_var, Ev.e_glob, Ev.e_bin, Ev.e_neg, Ev.e_cmp, Ev.chnS_some, Ev.e_chn, Ev.e_not, Ev.e_and, Ev.e_or, Ev.e_ife, Ev.e_tup, Ev.e_lst, Ev.e_idx, Ev.e_isi, Ev.e_bl1, Ev.e_un, Ev.e_bl2, Ev.callK_v, Ev.callK_f, Ev.callK_v1, Ev.callK_f1, Ev.callK_v2, Ev.argK_some, Ev.e_call, Ev.argsS_nil, Ev.argsS_v, Ev.argsS_l, Ev.lends_nil, Ev.lends_v, Ev.lends_l, Ev.a_nil, Ev.a_cons, Ev.r_nil, Ev.r_cons, Ev.lendK_some, Ev.r_lend, Ev.o_no, Ev.derK_some, Ev.o_yes, Ev.t_no, Ev.t_yes, Ev.i_val, Ev.slS_some, Ev.e_slc, Ev.opt_none, Ev.opt_int, Ev.slice_list, Ev.slice_tup, Ev.e_dsp, Ev.dicS_some, Ev.e_mg2, Ev.rgK_i, Ev.i_rg1, Ev.rgK2_i, Ev.i_rg2, Ev.enK_some, Ev.i_enm, Ev.zpK_some, Ev.i_zip, Ev.zpK3_some, Ev.i_zp3, Ev.lstS_l, Ev.e_ixo, Ev.c_cst, Ev.c_var, Ev.c_cmp, Ev.c_chn, Ev.c_isi, Ev.c_call, Ev.c_bl1, Ev.c_not, Ev.c_and, Ev.c_or, Ev.c_ife, Ev.seqK_nx, Ev.seqK_brk, Ev.seqK_cnt, Ev.seqK_ret, Ev.seqK_exc, Ev.seqK_stuck, Ev.seqK_ite, Ev.b_nil, Ev.b_cons, Ev.retK_d, Ev.retK_f, Ev.s_ret, Ev.s_retN, Ev.s_asg, Ev.s_ex, Ev.s_if, Ev.s_for, Ev.s_whl, Ev.s_pas, Ev.s_rse, Ev.nx_ok, Ev.nx_ite, Ev.s_qt, Ev.s_ifx, Ev.s_rai, Ev.s_exx, Ev.retX_d, Ev.retX_f, Ev.s_rtx, Ev.e_lamc, Ev.s_cnt, Ev.stoK_un, Ev.stoK_val, Ev.stoK_own, Ev.asn_d, Ev.asn_f, Ev.asn_fo, Ev.asn_t, Ev.asn_tl, Ev.asnL_nil, Ev.asnL_cons, Ev.asnP_nil, Ev.asnP_cons, Ev.s_asp, Ev.fK_f, Ev.fK_d, Ev.fK_s, Ev.f_nil, Ev.f_cons, Ev.lendF_some, Ev.setS_own, Ev.setS_bor, Ev.setAt_eq, Ev.ixK_some, Ev.setK_l, Ev.s_sto, Ev.outs_nil, Ev.outs_v, Ev.outs_b, Ev.endK_nx, Ev.endK_ret, Ev.endK_exc, Ev.endK_stuck, Ev.endK_ite, Ev.endS_some, Ev.endCall_eq, Ev.e_emp, Ev.e_din, Ev.e_dix, Ev.sdkS_some, Ev.e_sdk, Ev.e_tin, Ev.e_tix, Ev.e_tg1, Ev.e_tg2, Ev.e_sdt, Ev.e_sdv, Ev.e_sd2, Ev.popK_some, Ev.popS_l, Ev.e_pop, Ev.kgK_s, Ev.e_kg2, Ev.c_un, Ev.c_din, Ev.c_tin, Ev.s_dst, Ev.s_tst, Ev.isN_none, Ev.isN_bool, Ev.isN_int, Ev.isN_str, Ev.isN_list, Ev.isN_tup, Ev.isN_dict, Ev.e_mg1, Ev.appL_l, Ev.appK_l, Ev.s_app, Ev.e_dt1, Ev.nd_none, Ev.ty_int_none, Ev.ty_bool_none, Ev.ty_str_none, Ev.ty_tuple_none, Ev.ty_list_none, Ev.nd_bool, Ev.ty_int_bool, Ev.ty_bool_bool, Ev.ty_str_bool, Ev.ty_tuple_bool, Ev.ty_list_bool, Ev.nd_int, Ev.ty_int_int, Ev.ty_bool_int, Ev.ty_str_int, Ev.ty_tuple_int, Ev.ty_list_int, Ev.nd_str, Ev.ty_int_str, Ev.ty_bool_str, Ev.ty_str_str, Ev.ty_tuple_str, Ev.ty_list_str, Ev.nd_list, Ev.ty_int_list, Ev.ty_bool_list, Ev.ty_str_list, Ev.ty_tuple_list, Ev.ty_list_list, Ev.nd_tup, Ev.ty_int_tup, Ev.ty_bool_tup, Ev.ty_str_tup, Ev.ty_tuple_tup, Ev.ty_list_tup, Ev.nd_dict, Ev.ty_int_dict, Ev.ty_bool_dict, Ev.ty_str_dict, Ev.ty_tuple_dict, Ev.ty_list_dict, List.getElem?_cons_zero, List.getElem?_cons_succ, List.getElem?_nil, List.set_cons_zero, List.set_cons_succ, List.length_cons, List.length_nil, List.replicate_succ, List.replicate_zero, List.cons_append, List.nil_append, List.append_nil, List.nodup_nil, List.nodup_cons, List.mem_cons, List.not_mem_nil, List.isEmpty_nil, List.isEmpty_cons, Option.map_some, Option.map_none, Option.bind_some, Option.bind_none, Option.getD_some, Option.getD_none, Option.isSome_some, Option.isSome_none, Option.isNone_some, Option.isNone_none, ite_true, ite_false, if_true, if_false, decide_true, decide_false, decide_eq_true_eq, Bool.not_true, Bool.not_false, Bool.not_not, Bool.true_and, Bool.false_and, Bool.and_true, Bool.and_false, Bool.or_true, Bool.or_false, Bool.true_or, Bool.false_or, Bool.not_eq_true, Bool.not_eq_true', Bool.and_self, Bool.or_self, Bool.false_eq_true, reduceCtorEq, not_true_eq_false, not_false_eq_true, or_false, false_or, or_true, true_or, and_true, true_and, and_false, false_and, eq_self, bne_self_eq_false, Nat.reduceAdd, Nat.reduceSub, Nat.reduceLeDiff, Nat.reduceLT, Nat.reduceEqDiff, Nat.zero_add, Nat.reduceMul, Int.reduceNeg, Int.reduceAdd, Int.reduceSub, Int.reduceMul, Int.reduceLT, Int.reduceLE, Int.reduceEq, Int.reduceDiv, Int.reduceMod, Int.reduceToNat, Int.reducePow, Nat.succ_ne_zero, Nat.add_eq_zero_iff, Nat.le_refl, Nat.one_ne_zero, ↓reduceIte, Ev.SZ, $ts,*])
section
set_option maxRecDepth 100000
set_option linter.all false
set_option maxRecDepth 100000
set_option maxHeartbeats 4000000
/-! The law. -/
namespace K41
open PySem Ev
theorem grp_mem {w a b c d e : Int} (hb : 0 ≤ b ∧ b < 2) (hc : 0 ≤ c ∧ c < 2) (hd : 0 ≤ d ∧ d < 3) (he : 0 ≤ e ∧ e < 2) : costD w a b c d e ∈ grp w a := by
  have h3 : ∀ {x : Int}, 0 ≤ x ∧ x < 3 → x ∈ [(0 : Int), 1, 2] := fun h => by
    simp only [List.mem_cons, List.not_mem_nil, or_false]
    omega
  have h2 : ∀ {x : Int}, 0 ≤ x ∧ x < 2 → x ∈ [(0 : Int), 1] := fun h => by
    simp only [List.mem_cons, List.not_mem_nil, or_false]
    omega
  unfold grp
  exact List.mem_flatMap.mpr ⟨b, h2 hb, List.mem_flatMap.mpr ⟨c, h2 hc, List.mem_flatMap.mpr ⟨d, h3 hd, List.mem_map.mpr ⟨e, h2 he, rfl⟩⟩⟩⟩
theorem law41 (ns : List Int) (hl : ns.length ≤ 63) : callN P W 60 61 [.val (scriptD ns)] = .ok false (.bool true) [] := by
  rw [step (df := f61) rfl rfl]
  obtain ⟨c0, e0, h0⟩ := cup_ok 58 ns hl
  obtain ⟨x1, c1, e1, m1, h1⟩ := some_ge (N := 59) (by decide) h0 (l := [.int 20, .int 30]) (by simp) (by decide)
  obtain ⟨j2, c2, e2, a2, b2, h2⟩ := roll_ge (N := 59) (by decide) h1 (k := 3) (by decide) (by decide)
  obtain ⟨j3, c3, e3, a3, b3, h3⟩ := roll_ge (N := 59) (by decide) h2 (k := 2) (by decide) (by decide)
  obtain ⟨j4, c4, e4, a4, b4, h4⟩ := roll_ge (N := 59) (by decide) h3 (k := 2) (by decide) (by decide)
  obtain ⟨j5, c5, e5, a5, b5, h5⟩ := roll_ge (N := 59) (by decide) h4 (k := 3) (by decide) (by decide)
  obtain ⟨j6, c6, e6, a6, b6, h6⟩ := roll_ge (N := 59) (by decide) h5 (k := 2) (by decide) (by decide)
  have hx : ∃ w : Int, x1 = .int w ∧ (w = 20 ∨ w = 30) := by
    simp only [List.mem_cons, List.not_mem_nil, or_false] at m1
    rcases m1 with rfl | rfl
    · exact ⟨20, rfl, .inl rfl⟩
    · exact ⟨30, rfl, .inr rfl⟩
  obtain ⟨w, rfl, hw⟩ := hx
  obtain ⟨x7, c7, e7, m7, h7⟩ := some_ge (N := 59) (by decide) h6 (l := [.none, costD w j2 j3 j4 j5 j6, .int 5, .list []]) (by simp) (by simp only [List.length_cons, List.length_nil]; decide)
  have hg : (grp w j2).all (tryC (scriptD ns) c7 x7) = true := by
    have hj : j2 = 0 ∨ j2 = 1 ∨ j2 = 2 := by omega
    rcases hw with h | h
    · rcases hj with h' | h' | h'
      · rw [h, h']; exact g1 (scriptD ns) c7 x7
      · rw [h, h']; exact g2 (scriptD ns) c7 x7
      · rw [h, h']; exact g3 (scriptD ns) c7 x7
    · rcases hj with h' | h' | h'
      · rw [h, h']; exact g4 (scriptD ns) c7 x7
      · rw [h, h']; exact g5 (scriptD ns) c7 x7
      · rw [h, h']; exact g6 (scriptD ns) c7 x7
  have key := List.all_eq_true.mp hg _ (grp_mem ⟨a3, b3⟩ ⟨a4, b4⟩ ⟨a5, b5⟩ ⟨a6, b6⟩)
  unfold tryC at key
  have key := isC_ok key
  obtain ⟨SD, hSD⟩ : ∃ SD, SD = scriptD ns := ⟨_, rfl⟩
  rw [← hSD] at e0 key ⊢
  have ea : evS (callN P W 59) W S1 [.val SD, .un, .un, .un, .un, .un, .un] = .ok .nx [.val SD, .own c0, .un, .un, .un, .un, .un] := by simp! [S1, e0]
  have eb : evS (callN P W 59) W S2 [.val SD, .own c0, .un, .un, .un, .un, .un] = .ok .nx [.val SD, .own c6, .val (costD w j2 j3 j4 j5 j6), .un, .un, .un, .un] := by simp! [S2, costD, e1, e2, e3, e4, e5, e6]
  have ec : evS (callN P W 59) W S3 [.val SD, .own c6, .val (costD w j2 j3 j4 j5 j6), .un, .un, .un, .un] = .ok .nx [.val SD, .own c7, .val (costD w j2 j3 j4 j5 j6), .val x7, .un, .un, .un] := by
    obtain ⟨C, hC⟩ : ∃ C, C = costD w j2 j3 j4 j5 j6 := ⟨_, rfl⟩
    rw [← hC] at e7 ⊢
    simp! [S3, e7]
  show endK [.val SD] (evB (callN P W 59) W f61.body [.val SD, .un, .un, .un, .un, .un, .un]) = _
  rw [body61]
  obtain ⟨tl, htl⟩ : ∃ tl, tl = tl61 := ⟨_, rfl⟩
  rw [← htl] at key ⊢
  have hb : evB (callN P W 59) W (.cons S1 (.cons S2 (.cons S3 tl))) [.val SD, .un, .un, .un, .un, .un, .un] = evB (callN P W 59) W tl [.val SD, .own c7, .val (costD w j2 j3 j4 j5 j6), .val x7, .un, .un, .un] := by simp! [ea, eb, ec]
  rw [hb]
  exact key
theorem pure : Pure := law41
end K41

end
end
section
set_option linter.all false
set_option maxRecDepth 100000
set_option maxHeartbeats 0
theorem PySem.Challenge.cw_settlepages_k41_keys_lots_and_lines_refu_holds : PySem.Challenge.rw_settlepages_k41_keys_lots_and_lines_refu.Holds := by
  exact K41.fin_law K41.pure

end