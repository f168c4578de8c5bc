import PyProof.Rows.All
import HandS.SetFor
import HandS.Strs
import PyProof.ReprRoads
import HandS.ForMost
import HandS.Flow
import HandS.TupAny
import HandS.IsInst
import HandS.Wide
import HandS.WordsExc
import PyProof.ReprReads
import KE.LtData
import HandS.Deep
import HandS.ExcIs
import HandS.HotCalls
import HandS.TryOnly
import HandS.ExcValue
import KE.KExcStr
import HandS.TupMul
import HandS.Style
import HandS.RaiseMore
import HandS.ExcOwn
import HandS.Conv
import HandS.Ends
import KE.RegKIsAll
import KE.RegKTryMore
import OpenK.KOwn
import PySem.Challenge.RW_manyrooms_k34_paths_of_systems
set_option Elab.async false
set_option linter.all false
set_option maxRecDepth 100000
set_option maxHeartbeats 4000000
/-! RF0: set(list of ints), sorted(set(list of ints)) -/
namespace RF
open PySem PySem.Spec PyProof.Rows L2
/-- a new set -/
abbrev sObj (w : World) : Obj := { cls := .type "set", dict := none, data := .set #[] 0 (.fresh 0 0 (!w.params.followText "set-order")) }
section
variable {P : Program} {w : World} {A : Around} {E : Value → Shared → Prop} {s : Shared}
/-- what set(ints) leaves -/
def SetLeft (w : World) (s : Shared) (ns : List Int) (s₂ : Shared) : Prop :=
  ∃ h' tk c, s₂ = { s with heap := h', toks := tk } ∧ SetR w h' s.heap.objs.size (fun j => decide (j ∈ ns)) c ∧ c ≤ ns.length ∧ ∀ b o, s.heap.get? b = some o → h'.get? b = some o
theorem set_of_list {l : Addr} {items : Array Value} (ns : List Int) {Q : Value → Shared → Prop} (hh : A.handled = none) (hl : s.heap.IsList l items) (hit : IntsAre items.toList ns) (hb : ns.length + 1 < scanBound)
    (h : ∀ s₂, SetLeft w s ns s₂ → Q (.ref s.heap.objs.size) s₂) : wpAny (model P w) A (call (.type "set") [.ref l]) Q E s := by
  have sz : items.size = ns.length := by
    have q := IntsAre.length hit
    rwa [Array.length_toList] at q
  obtain ⟨c0, t0, m0⟩ := F.called_set.mro
  have k1 := F.called_set.made
  have k2 := F.called_set.sub
  refine wpAny_call (codeAny_of_tree ?_)
  show wpAny _ _ (callAny (.type "set") _) _ _ _
  refine wpAny_pure ⟨PySem.Code.quiet_builtin _ (by decide +kernel), codeAny_builtin F.entry_type_call ?_⟩
  rw [Around.under_plain (weight_type_call_type "set" [Value.ref l] []) rfl]
  have k3 := F.called_set.notType
  have k4 := F.called_set.canCreate
  have k5 := F.typeCall_set_1 (Value.ref l)
  repeat any_goals first
    | assumption
    | wp_step
  refine codeAny_mono (code_set_led1 (Value.ref l) (E := E) (Q₁ := fun obj s₁ => obj = .ref s.heap.objs.size ∧ s₁ = { s with heap := s.heap.push (sObj w) }) ⟨rfl, rfl⟩) fun r s₁ hr => ?_
  cases r with
  | error e => exact hr
  | ok fl =>
  cases fl with
  | ret obj =>
    obtain ⟨rfl, rfl⟩ := hr
    have hS : (s.heap.push (sObj w)).get? s.heap.objs.size = some (sObj w) := Heap.get?_push_size _ rfl
    have hT : Shared.TypeIs { s with heap := s.heap.push (sObj w) } (.ref s.heap.objs.size) "set" := ⟨_, hS, rfl⟩
    have k6 := F.called_set.init.lookup
    have k7 := F.called_set.init.bind (Value.ref s.heap.objs.size)
    repeat any_goals first
      | assumption
      | wp_step
    refine codeAny_mono (codeAny_call_builtin (R := wants (fun r s₂ => r = .none ∧ SetLeft w s ns s₂) E) F.called_set.init.plain F.entry_set_init (check_set_init_1 hT ?_)) fun r₂ s₂ hr₂ => ?_
    · obtain ⟨⟨oc, od, oda, os⟩, hol, hcl, nl, hdl⟩ := hl
      simp only at hcl hdl
      subst hcl; subst hdl
      have hol' : (s.heap.push (sObj w)).get? l = some { cls := .type "list", dict := od, data := .seq items nl, slots := os } := Heap.get?_push_of_some _ hol
      have hl1 : (s.heap.push (sObj w)).IsList l items := ⟨_, hol', rfl, nl, rfl⟩
      have e1 := F.sub_list_set
      have e2 := F.sub_list_frozenset
      have e3 : (Value.type "list" == Value.type "dict") = false := by decide +kernel
      unfold Builtin.«set.__init__» noKeywords
      unfold Builtin.Frozenset.updateFrom
      generalize hPI : pyIter = PI
      wp_walk
      subst hPI
      refine wpAny_pyIter_list hl1 (wpAny_bind (wpAny_runValue ?_))
      have lS : l < s.heap.objs.size := Heap.lt_size hol
      have h3 : A.in1.in1.in1.handled = none := hh
      have z1 : (s.heap.push (sObj w)).objs.size = s.heap.objs.size + 1 := Heap.size_push ..
      have nI : l ≠ (s.heap.push (sObj w)).objs.size := by rw [z1]; exact Nat.ne_of_lt (Nat.lt_succ_of_lt lS)
      have nS : s.heap.objs.size ∉ [(s.heap.push (sObj w)).objs.size, l] := by
        rw [z1]
        simp only [List.mem_cons, List.not_mem_nil, or_false, not_or]
        exact ⟨Nat.ne_of_lt (Nat.lt_succ_self _), Nat.ne_of_gt lS⟩
      have val : ∀ (i : Nat) (v : Value), items[i]? = some v → ∃ k t, ns[i]? = some k ∧ v = .int k t := fun i v hv => by
        have hi : i < ns.length := by rw [← sz]; exact (Array.getElem?_eq_some_iff.mp hv).1
        obtain ⟨t, e⟩ := IntsAre.int_at hit i v (by rw [Array.getElem?_toList]; exact hv)
        refine ⟨ns[i], t, List.getElem?_eq_getElem hi, ?_⟩
        rw [e, List.getD_eq_getElem?_getD, List.getElem?_eq_getElem hi]
        rfl
      refine set_update_ints ((Walks.list h3 _ l nI items).toS) s.heap.objs.size nS ns sz hb val (items.size - 0) 0 _ (by omega) (Nat.zero_le _) ⟨⟨_, Heap.get?_push_size _ rfl, rfl, rfl⟩, (hl1.push _)⟩ ?_ ?_
      · have g : ((s.heap.push (sObj w)).push { cls := .type "list_iterator", data := .fields #[.ref l, .int 0 0] }).get? s.heap.objs.size = some (sObj w) := Heap.get?_push_of_some _ hS
        exact ⟨0, Nat.le_refl 0, setR_new_at g⟩
      · rintro ⟨h', g2, d', tk', os'⟩ c' hm hc' hS'
        have eg : g2 = s.gens := hm.gens
        have ed : d' = s.drawn := hm.drawn
        have eo : os' = s.os := hm.os
        subst eg ed eo
        show wpAny _ _ _ _ _ _
        refine wpAny_pure (show wpAny _ _ (ret Value.none) _ _ _ from ?_)
        rw [sz] at hc'
        refine wpAny_pure ⟨rfl, h', tk', c', rfl, hS', hc', fun b o e => ?_⟩
        have b0 : b < s.heap.objs.size := Heap.lt_size e
        have b2 : b ≠ (s.heap.push (sObj w)).objs.size := by rw [z1]; exact Nat.ne_of_lt (Nat.lt_succ_of_lt b0)
        refine hm.heap b o ?_ (Heap.get?_push_of_some _ (Heap.get?_push_of_some _ e))
        simp only [List.mem_cons, List.not_mem_nil, or_false, not_or]
        exact ⟨Nat.ne_of_lt b0, b2⟩
    · cases r₂ with
      | error e => exact hr₂
      | ok fl₂ =>
        cases fl₂ with
        | ret r =>
          obtain ⟨rfl, h', tk, c', rfl, q⟩ := hr₂
          repeat any_goals first
            | assumption
            | wp_step
          exact h _ ⟨h', tk, c', rfl, q⟩
        | _ => exact hr₂.elim
  | _ => exact hr.elim
end
end RF


/-! RFA: a small language with a meaning by plain values: lists and dicts are values, too; a name either owns its list (then it may be changed in place) or shares it. -/
namespace RF
open PySem PySem.Spec PyProof.Rows L2

/-- a plain value; the pairs of a dict are tuples of two -/
inductive D where
  | non | bl (b : Bool) | int (i : Int) | str (s : Str) | tup (xs : List D) | lst (xs : List D) | dic (kvs : List D) | ty (n : String) | opq (a : Addr)

/-- what a name holds: nothing, a thing that was handed on, a shared value, an owned list or dict -/
inductive Sl where
  | un | mv | sh (d : D) | ow (d : D)
abbrev Env := List Sl
/-- an argument: a name, looked at when the call is made, or a value -/
inductive AV where
  | nm (i : Nat) | vl (s : Sl)
inductive Fl where
  | nx | bk | ct | rt (s : Sl)
inductive Out where
  | val (s : Sl) | args (as : List AV) | its (ds : List D) | fl (f : Fl) | opt (d : Option D)
inductive Res (α : Type) where
  | ok (a : α) | ex (c : Str) | bad

def Res.bind {α β : Type} : Res α → (α → Res β) → Res β
  | .ok a, f => f a
  | .ex c, _ => .ex c
  | .bad, _ => .bad
@[simp] theorem Res.bind_ok {α β : Type} (a : α) (f : α → Res β) : (Res.ok a).bind f = f a := rfl
@[simp] theorem Res.bind_ex {α β : Type} (c : Str) (f : α → Res β) : (Res.ex c : Res α).bind f = .ex c := rfl
@[simp] theorem Res.bind_bad {α β : Type} (f : α → Res β) : (Res.bad : Res α).bind f = .bad := rfl

theorem Res.bind_congr {α β : Type} {x y : Res α} {f : α → Res β} (h : x = y) : x.bind f = y.bind f := by rw [h]
/-- the value in it -/
def Sl.d : Sl → Option D
  | .sh d => some d
  | .ow d => some d
  | _ => none
def Sl.down : Sl → Sl
  | .ow d => .sh d
  | s => s
def ofO {α : Type} : Option α → Res α
  | some a => .ok a
  | none => .bad

/-! ### builtins by name -/
inductive B where
  | len | abs | int_ | isinstance | max_ | min_ | list_ | tuple_ | sum_ | sorted_ | repr_
  deriving DecidableEq
def B.name : B → Str
  | .len => "len" | .abs => "abs" | .int_ => "int" | .isinstance => "isinstance" | .max_ => "max" | .min_ => "min" | .list_ => "list" | .tuple_ => "tuple" | .sum_ => "sum" | .sorted_ => "sorted" | .repr_ => "repr"
/-! ### the syntax -/
inductive I where
  | var (i : Nat) | mov (i : Nat) | cN | cB (b : Bool) | cI (i : Int) | cS (s : Str) | glo (k : Nat) | bty (n : String)
  | nilE | argN (i : Nat) (es : I) | consE (a es : I)
  | tupE (es : I) | lstE (es : I)
  | bop (op : Operator) (es : I) | cop (op : CmpOp) (es : I) | uop (op : UnaryOp) (es : I) | ixe (es : I) | sle (lo hi : Bool) (es : I)
  | blt (id : B) (es : I) | sos (es : I) | mth (m : Str) (es : I) | call (f : Nat) (es : I)
  | tn (i : Nat) | tv (a : I) | tcp (op : CmpOp) (es : I) | tch (o p : CmpOp) (a b c : I) | tnot (t : I) | tand (a b : I) | tor (a b : I)
  | vand (a b : I) | vor (a b : I) | vnot (a : I) | ife (c a b : I) | chn (o p : CmpOp) (a b c : I)
  | itV (a : I) | itR (es : I) | itR2 (es : I)
  | tN (i : Nat) | tT (ts : I) | tNil | tCons (t ts : I)
  | ifN | ifC (c : I)
  | lc (own : List Nat) (tg it ifs e : I)
  | lc2 (own own1 : List Nat) (tg it ifs tg1 it1 ifs1 e : I)
  | lcO (own : List Nat) (i : Nat) (tg ifs e : I) | forO (i : Nat) (t b : I)
  | skip | seq (a b : I) | exs (e : I) | asg (t e : I) | aug (i : Nat) (op : Operator) (e : I) | app (i : Nat) (e : I) | sti (i : Nat) (k e : I)
  | raiseS (x : Str) | tryA (i : Nat) (x : Str) (b : I) | tryT (i : Nat) (x s : Str) (b : I) | tupR (es : I) | tupR2 (es : I) | lstR (es : I) | lstR2 (es : I)
  | ret (e : I) | retN | ifS (c a b : I) | forS (t it b : I) | whl (c b : I) | brk | cnt | pas

/-! ### plain values -/
mutual
/-- == -/
def D.eqv : D → D → Bool
  | .non, .non => true
  | .bl a, .bl b => a == b
  | .bl a, .int b => (if a then 1 else 0) == b
  | .int a, .bl b => a == (if b then 1 else 0)
  | .int a, .int b => a == b
  | .str a, .str b => a == b
  | .tup xs, .tup ys => D.eqvs xs ys
  | .lst xs, .lst ys => D.eqvs xs ys
  | _, _ => false
def D.eqvs : List D → List D → Bool
  | [], [] => true
  | x :: xs, y :: ys => D.eqv x y && D.eqvs xs ys
  | _, _ => false
end
mutual
/-- data that == is asked of: no dicts, at most so deep -/
def D.pl : Nat → D → Bool
  | _, .non => true
  | _, .bl _ => true
  | _, .int _ => true
  | _, .str s => PyData.strOk s
  | n + 1, .tup xs => D.pls n xs
  | n + 1, .lst xs => D.pls n xs
  | _, _ => false
def D.pls : Nat → List D → Bool
  | _, [] => true
  | n, x :: xs => D.pl n x && D.pls n xs
end
def D.truth : D → Option Bool
  | .non => some false
  | .bl b => some b
  | .int i => some (i != 0)
  | .str s => if s.length ≤ sizeLine then some ((s.length : Int) != 0) else none
  | .tup xs => some !xs.isEmpty
  | .lst xs => some !xs.isEmpty
  | _ => none
def D.flat : D → Bool
  | .non => true
  | .bl _ => true
  | .int _ => true
  | .str _ => true
  | _ => false
def seqOf : D → Option (List D)
  | .tup xs => some xs
  | .lst xs => some xs
  | _ => none
def intsOf : List D → Option (List Int)
  | [] => some []
  | .int i :: r => (intsOf r).map (i :: ·)
  | _ :: _ => none
def slV (d : D) : Option Sl := some (.sh d)

/-- a number whose size is looked at -/
def wide (i : Int) : Bool := decide (i.natAbs.log2 < 9000)
def pBop : Operator → D → D → Option Sl
  | .Add, .int i, .int j => slV (.int (i + j))
  | .Add, .str a, .str b => if a.length + b.length ≤ sizeLine then slV (.str (a ++ b)) else none
  | .Add, .tup a, .tup b => if a.length + b.length ≤ sizeLine then slV (.tup (a ++ b)) else none
  | .Add, .lst a, .lst b => if a.length + b.length ≤ sizeLine then some (.ow (.lst (a ++ b))) else none
  | .Sub, .int i, .int j => slV (.int (i - j))
  | .Mult, .int i, .int j => if i.natAbs.log2 + j.natAbs.log2 < 1000000 then slV (.int (i * j)) else none
  | .Mult, .tup a, .int k => if k ≤ 1000 ∧ -1000 ≤ k ∧ a.length ≤ 1000 then slV (.tup (List.replicate k.toNat a).flatten) else none
  | .FloorDiv, .int i, .int j => if 0 < j ∧ j.natAbs.log2 < 9000 then slV (.int (i / j)) else none
  | .Mod, .int i, .int j => if 0 < j then slV (.int (i % j)) else none
  | .Pow, .int i, .int j => if 0 ≤ j ∧ j ≤ 1000000 ∧ i.natAbs < 2 ^ 64 then slV (.int (i ^ j.toNat)) else none
  | _, _, _ => none
def pUop : UnaryOp → D → Option Sl
  | .USub, .int i => slV (.int (-i))
  | _, _ => none
def D.isNon : D → Bool
  | .non => true
  | _ => false
def deepest : Nat := 40
def pIn (x : D) (s : D) : Option Bool :=
  match seqOf s with
  | some xs => if x.flat && xs.all D.flat then some (xs.any fun y => D.eqv y x) else if x.pl deepest && s.pl deepest then some (xs.any fun y => D.eqv y x) else none
  | none => none
def isBB : D → D → Option Bool
  | .bl x, .bl y => some (decide (x = y))
  | _, _ => none
def pCop : CmpOp → D → D → Option Bool
  | .Lt, .int i, .int j => some (decide (i < j))
  | .LtE, .int i, .int j => some (decide (i ≤ j))
  | .Gt, .int i, .int j => some (decide (j < i))
  | .GtE, .int i, .int j => some (decide (j ≤ i))
  | .Eq, a, b => if a.pl deepest && b.pl deepest then some (D.eqv a b) else none
  | .NotEq, a, b => if a.pl deepest && b.pl deepest then some (!D.eqv a b) else none
  | .Is, a, b => if b.isNon then some a.isNon else isBB a b
  | .IsNot, a, b => if b.isNon then some (!a.isNon) else (isBB a b).map (!·)
  | .In, a, b => pIn a b
  | .NotIn, a, b => (pIn a b).map (!·)
  | _, _, _ => none
def pIx : D → D → Option Sl
  | .lst xs, .int i => (atI xs i).map .sh
  | .tup xs, .int i => (atI xs i).map .sh
  | _, _ => none
def cutL {α : Type} (xs : List α) (lo hi : Option Int) : List α := (xs.drop (HT.sIx xs.length 0 lo)).take (HT.sIx xs.length xs.length hi - HT.sIx xs.length 0 lo)
def pSl : D → Option Int → Option Int → Option Sl
  | .lst xs, lo, hi => some (.ow (.lst (cutL xs lo hi)))
  | .tup xs, lo, hi => some (.sh (.tup (cutL xs lo hi)))
  | _, _, _ => none
end RF


namespace RF
open PySem PySem.Spec PyProof.Rows L2

def tyN : D → Option String
  | .non => some "NoneType"
  | .bl _ => some "bool"
  | .int _ => some "int"
  | .str _ => some "str"
  | .tup _ => some "tuple"
  | .lst _ => some "list"
  | _ => none
/-- isinstance of a plain value -/
def isiD (d : D) (n : String) : Option Bool :=
  if n = "int" then (match d with | .int _ => some true | .bl _ => some true | .dic _ => none | .ty _ => none | .opq _ => none | _ => some false)
  else if n = "bool" then (match d with | .bl _ => some true | .dic _ => none | .ty _ => none | .opq _ => none | _ => some false)
  else if n = "str" then (match d with | .str _ => some true | .dic _ => none | .ty _ => none | .opq _ => none | _ => some false)
  else if n = "tuple" then (match d with | .tup _ => some true | .dic _ => none | .ty _ => none | .opq _ => none | _ => some false)
  else if n = "list" then (match d with | .lst _ => some true | .dic _ => none | .ty _ => none | .opq _ => none | _ => some false)
  else none
/-- the sorted list -/
def ins (x : Int) : List Int → List Int
  | [] => [x]
  | y :: ys => if x ≤ y then x :: y :: ys else y :: ins x ys
def isort : List Int → List Int
  | [] => []
  | x :: xs => ins x (isort xs)

/-! ### plain data as the library has them -/
mutual
def D.py : D → PyData
  | .non => .none
  | .bl b => .bool b
  | .int i => .int i
  | .str s => .str s
  | .tup xs => .tuple (D.pys xs)
  | .lst xs => .list (D.pys xs)
  | _ => .none
def D.pys : List D → List PyData
  | [] => []
  | x :: xs => D.py x :: D.pys xs
end
/-- repr -/
def pRepr : D → Option Sl
  | .int i => if i.natAbs.log2 < 1920 then slV (.str (toString i)) else none
  | .lst xs => if (D.lst xs).pl deepest && (D.lst xs).py.showable && decide ((D.lst xs).py.shown.length ≤ sizeLine) then slV (.str (D.lst xs).py.shown) else none
  | .tup xs => if (D.tup xs).pl deepest && (D.tup xs).py.showable && decide ((D.tup xs).py.shown.length ≤ sizeLine) then slV (.str (D.tup xs).py.shown) else none
  | _ => none
/-- each number once -/
def ddp : List Int → List Int
  | [] => []
  | x :: xs => if x ∈ xs then ddp xs else x :: ddp xs
/-- sorted(set(..)) -/
def pSos : List D → Option Sl
  | [.lst xs] => if xs.length < 60 then (intsOf xs).map fun ns => .ow (.lst ((isort (ddp ns)).map .int)) else none
  | _ => none
def pBlt : B → List D → Option Sl
  | .len, [.str s] => if s.length ≤ sizeLine then slV (.int s.length) else none
  | .len, [.lst xs] => slV (.int xs.length)
  | .len, [.tup xs] => slV (.int xs.length)
  | .abs, [.int i] => slV (.int (if i < 0 then -i else i))
  | .int_, [.int i] => slV (.int i)
  | .int_, [.bl b] => slV (.int (if b then 1 else 0))
  | .isinstance, [d, .ty n] => (isiD d n).map fun b => .sh (.bl b)
  | .max_, [.int i, .int j] => slV (.int (if j > i then j else i))
  | .min_, [.int i, .int j] => slV (.int (if j < i then j else i))
  | .list_, [.lst xs] => some (.ow (.lst xs))
  | .list_, [.tup xs] => some (.ow (.lst xs))
  | .tuple_, [.lst xs] => slV (.tup xs)
  | .tuple_, [.tup xs] => slV (.tup xs)
  | .sum_, [.lst xs] => (intsOf xs).map fun ns => .sh (.int ns.sum)
  | .sorted_, [.lst xs] => if xs.length < 64 then (intsOf xs).map fun ns => .ow (.lst ((isort ns).map .int)) else none
  | .repr_, [d] => pRepr d
  | _, _ => none

/-! ### the meaning -/
/-- the values of arguments, names looked at now -/
def look (e : Env) : List AV → Option (List D)
  | [] => some []
  | .nm i :: r => match e[i]? with
    | some s => match s.d with
      | some d => (look e r).map (d :: ·)
      | none => none
    | none => none
  | .vl s :: r => match s.d with
    | some d => (look e r).map (d :: ·)
    | none => none
/-- the arguments handed to a def -/
def hand (e : Env) : List AV → Option (List Sl)
  | [] => some []
  | .nm i :: r => match e[i]? with
    | some (.sh d) => (hand e r).map (.sh d :: ·)
    | some (.ow d) => (hand e r).map (.ow d :: ·)
    | _ => none
  | .vl s :: r => (hand e r).map (s :: ·)
/-- .. and taken back -/
def back (e : Env) : List AV → List Sl → Env
  | .nm i :: r, s :: ss => match e[i]? with
    | some (.ow _) => back (e.set i s) r ss
    | _ => back e r ss
  | .vl _ :: r, _ :: ss => back e r ss
  | _, _ => e
def isNm (i : Nat) : AV → Bool
  | .nm j => i == j
  | _ => false
/-- an owned name is handed once -/
def once (e : Env) : List AV → Bool
  | [] => true
  | .nm i :: r => (match e[i]? with
    | some (.ow _) => !(r.any (isNm i))
    | _ => true) && once e r
  | .vl _ :: r => once e r
/-- values, no names: what a display takes up -/
def vals : List AV → Option (List D)
  | [] => some []
  | .vl s :: r => match s.d with
    | some d => (vals r).map (d :: ·)
    | none => none
  | .nm _ :: _ => none
def noOw (e : Env) (is : List Nat) : Bool := is.all fun i => match e[i]? with
  | some (.ow _) => false
  | some _ => true
  | none => false
def wipeE (e : Env) : List Nat → Env
  | [] => e
  | i :: is => (wipeE e is).set i .un
/-- the names at is as in e -/
def rest (e e' : Env) : List Nat → Env
  | [] => e'
  | i :: is => match e[i]? with
    | some s => (rest e e' is).set i s
    | none => rest e e' is
mutual
/-- a target takes a value -/
def take : I → D → Env → Option Env
  | .tN i, d, e => if i < e.length then some (e.set i (.sh d)) else none
  | .tT ts, d, e => match seqOf d with
    | some ds => takes ts ds e
    | none => none
  | _, _, _ => none
def takes : I → List D → Env → Option Env
  | .tNil, [], e => some e
  | .tCons t ts, d :: ds, e => (take t d e).bind (takes ts ds)
  | _, _, _ => none
end
abbrev R := Res (Out × Env)
def forL (step : D → Env → R) : List D → Env → R
  | [], e => .ok (.fl .nx, e)
  | d :: ds, e => match step d e with
    | .ok (.fl .nx, e') => forL step ds e'
    | .ok (.fl .ct, e') => forL step ds e'
    | .ok (.fl .bk, e') => .ok (.fl .nx, e')
    | .ok (.fl (.rt s), e') => .ok (.fl (.rt s), e')
    | .ok _ => .bad
    | .ex c => .ex c
    | .bad => .bad
def whL (test body : Env → R) : Nat → Env → R
  | 0, _ => .bad
  | n + 1, e => match test e with
    | .ok (.val (.sh (.bl true)), e1) => (match body e1 with
      | .ok (.fl .nx, e') => whL test body n e'
      | .ok (.fl .ct, e') => whL test body n e'
      | .ok (.fl .bk, e') => .ok (.fl .nx, e')
      | .ok (.fl (.rt s), e') => .ok (.fl (.rt s), e')
      | .ok _ => .bad
      | .ex c => .ex c
      | .bad => .bad)
    | .ok (.val (.sh (.bl false)), e1) => .ok (.fl .nx, e1)
    | .ok _ => .bad
    | .ex c => .ex c
    | .bad => .bad
/-- a loop over the list that name i owns: each turn looks at the list as it is then -/
def forOL (step : D → Env → R) (i : Nat) : Nat → Nat → Env → R
  | 0, _, _ => .bad
  | n + 1, k, e => match e[i]? with
    | some (.ow (.lst ds)) => (match ds[k]? with
      | some d => (match step d e with
        | .ok (.fl .nx, e') => forOL step i n (k + 1) e'
        | .ok (.fl .ct, e') => forOL step i n (k + 1) e'
        | .ok (.fl .bk, e') => .ok (.fl .nx, e')
        | .ok (.fl (.rt s), e') => .ok (.fl (.rt s), e')
        | .ok _ => .bad
        | .ex c => .ex c
        | .bad => .bad)
      | none => .ok (.fl .nx, e))
    | _ => .bad
/-- .. of a comprehension -/
def lcOL (step : D → Env → R) (i : Nat) : Nat → Nat → Env → Res (List D × Env)
  | 0, _, _ => .bad
  | n + 1, k, e => match e[i]? with
    | some (.ow (.lst ds)) => (match ds[k]? with
      | some d => (match step d e with
        | .ok (.opt o, e') => (lcOL step i n (k + 1) e').bind fun p => .ok (o.toList ++ p.1, p.2)
        | _ => .bad)
      | none => .ok ([], e))
    | _ => .bad
/-- a list comprehension's turns: each gives a value or none -/
def lcL (step : D → Env → R) : List D → Env → Res (List D × Env)
  | [], e => .ok ([], e)
  | d :: ds, e => match step d e with
    | .ok (.opt o, e') => (lcL step ds e').bind fun p => .ok (o.toList ++ p.1, p.2)
    | _ => .bad
/-- .. of two clauses: an outer turn gives a list -/
def lcL2 (step : D → Env → Res (List D × Env)) : List D → Env → Res (List D × Env)
  | [], e => .ok ([], e)
  | d :: ds, e => match step d e with
    | .ok (r, e') => (lcL2 step ds e').bind fun p => .ok (r ++ p.1, p.2)
    | _ => .bad
def valOf : R → Res (Sl × Env)
  | .ok (.val s, e) => .ok (s, e)
  | .ok _ => .bad
  | .ex c => .ex c
  | .bad => .bad
def argsOf : R → Res (List AV × Env)
  | .ok (.args s, e) => .ok (s, e)
  | .ok _ => .bad
  | .ex c => .ex c
  | .bad => .bad
def itsOf : R → Res (List D × Env)
  | .ok (.its s, e) => .ok (s, e)
  | .ok _ => .bad
  | .ex c => .ex c
  | .bad => .bad
def tstOf : R → Res (Bool × Env)
  | .ok (.val (.sh (.bl b)), e) => .ok (b, e)
  | .ok _ => .bad
  | .ex c => .ex c
  | .bad => .bad
def flOf : R → Res (Fl × Env)
  | .ok (.fl s, e) => .ok (s, e)
  | .ok _ => .bad
  | .ex c => .ex c
  | .bad => .bad
def rngL (lo hi : Int) : List D := (List.range (hi - lo).toNat).map fun (k : Nat) => .int (lo + k)
def inI62 (i : Int) : Bool := decide (-(2 ^ 62) ≤ i ∧ i < 2 ^ 62)

/-- a range of this size may be laid out -/
def rgB (i j : Int) : Bool := inI62 i && inI62 j && decide ((j - i).toNat ≤ 16777216)
def pTupR : List D → Option Sl
  | [.int j] => if rgB 0 j then some (.sh (.tup (rngL 0 j))) else none
  | [.int i, .int j] => if rgB i j then some (.sh (.tup (rngL i j))) else none
  | _ => none
def pLstR : List D → Option Sl
  | [.int j] => if rgB 0 j then some (.ow (.lst (rngL 0 j))) else none
  | [.int i, .int j] => if rgB i j then some (.ow (.lst (rngL i j))) else none
  | _ => none
def augI : Operator → Int → Int → Option Int
  | .Add, x, y => some (x + y)
  | .Sub, x, y => some (x - y)
  | _, _, _ => none
structure Sig where
  /-- module constants -/
  con : List (Nat × D)
  /-- the turns a while may take -/
  lim : Nat
  /-- of which class an error is one -/
  sub : List ((Str × Str) × Bool) := []
  /-- the word that is told of an error -/
  tab : List (Str × Str) := []

/-- an except clause: it hands back what h makes of the error's word -/
def caught (G : Sig) (x : Str) (h : Str → D) (r : R) (e : Env) : R := match r with
  | .ex c => (match G.sub.lookup (c, x) with
    | some true => (match G.tab.lookup c with
      | some s => .ok (.fl (.rt (.sh (h s))), e.map fun _ => .un)
      | none => .bad)
    | some false => .ex c
    | none => .bad)
  | r => r
section
variable (G : Sig) (call : Nat → List Sl → Res (Sl × List Sl))
def ev : I → Env → R
  | .var i, e => match e[i]? with
    | some (.sh d) => .ok (.val (.sh d), e)
    | some (.ow d) => .ok (.val (.sh d), e.set i (.sh d))
    | _ => .bad
  | .mov i, e => match e[i]? with
    | some (.sh d) => .ok (.val (.sh d), e)
    | some (.ow d) => .ok (.val (.ow d), e.set i .mv)
    | _ => .bad
  | .cN, e => .ok (.val (.sh .non), e)
  | .cB b, e => .ok (.val (.sh (.bl b)), e)
  | .cI i, e => .ok (.val (.sh (.int i)), e)
  | .cS s, e => .ok (.val (.sh (.str s)), e)
  | .bty n, e => .ok (.val (.sh (.ty n)), e)
  | .glo k, e => match G.con.lookup k with
    | some d => .ok (.val (.sh d), e)
    | none => .bad
  | .nilE, e => .ok (.args [], e)
  | .argN i es, e => match e[i]? with
    | some (.sh _) => (argsOf (ev es e)).bind fun p => .ok (.args (.nm i :: p.1), p.2)
    | some (.ow _) => (argsOf (ev es e)).bind fun p => .ok (.args (.nm i :: p.1), p.2)
    | _ => .bad
  | .consE a es, e => (valOf (ev a e)).bind fun q => (argsOf (ev es q.2)).bind fun p => .ok (.args (.vl q.1 :: p.1), p.2)
  | .tupE es, e => (argsOf (ev es e)).bind fun p => (ofO (vals p.1)).bind fun ds => if ds.length ≤ sizeLine then .ok (.val (.sh (.tup ds)), p.2) else .bad
  | .lstE es, e => (argsOf (ev es e)).bind fun p => (ofO (vals p.1)).bind fun ds => if ds.length ≤ sizeLine then .ok (.val (.ow (.lst ds)), p.2) else .bad
  | .bop op es, e => (argsOf (ev es e)).bind fun p => match look p.2 p.1 with
    | some [a, b] => (ofO (pBop op a b)).bind fun s => .ok (.val s, p.2)
    | _ => .bad
  | .cop op es, e => (argsOf (ev es e)).bind fun p => match look p.2 p.1 with
    | some [a, b] => (ofO (pCop op a b)).bind fun s => .ok (.val (.sh (.bl s)), p.2)
    | _ => .bad
  | .uop op es, e => (argsOf (ev es e)).bind fun p => match look p.2 p.1 with
    | some [a] => (ofO (pUop op a)).bind fun s => .ok (.val s, p.2)
    | _ => .bad
  | .ixe es, e => (argsOf (ev es e)).bind fun p => match look p.2 p.1 with
    | some [a, b] => (ofO (pIx a b)).bind fun s => .ok (.val s, p.2)
    | _ => .bad
  | .sle lo hi es, e => (argsOf (ev es e)).bind fun p => match lo, hi, look p.2 p.1 with
    | true, true, some [a, .int i, .int j] => (ofO (pSl a (some i) (some j))).bind fun s => .ok (.val s, p.2)
    | true, false, some [a, .int i] => (ofO (pSl a (some i) none)).bind fun s => .ok (.val s, p.2)
    | false, true, some [a, .int j] => (ofO (pSl a none (some j))).bind fun s => .ok (.val s, p.2)
    | false, false, some [a] => (ofO (pSl a none none)).bind fun s => .ok (.val s, p.2)
    | _, _, _ => .bad
  | .blt b es, e => (argsOf (ev es e)).bind fun p => match look p.2 p.1 with
    | some ds => (ofO (pBlt b ds)).bind fun s => .ok (.val s, p.2)
    | _ => .bad
  | .sos es, e => (argsOf (ev es e)).bind fun p => match look p.2 p.1 with
    | some ds => (ofO (pSos ds)).bind fun s => .ok (.val s, p.2)
    | _ => .bad
  | .mth m es, e => .bad
  | .call f es, e => (argsOf (ev es e)).bind fun p => match hand p.2 p.1 with
    | some ss => if once p.2 p.1 then (call f ss).bind fun q => .ok (.val q.1, back p.2 p.1 q.2) else .bad
    | none => .bad
  | .tn i, e => match e[i]? with
    | some s => (ofO (s.d.bind D.truth)).bind fun b => .ok (.val (.sh (.bl b)), e)
    | none => .bad
  | .tv a, e => (valOf (ev a e)).bind fun q => (ofO (q.1.d.bind D.truth)).bind fun b => .ok (.val (.sh (.bl b)), q.2)
  | .tnot t, e => (tstOf (ev t e)).bind fun q => .ok (.val (.sh (.bl (!q.1))), q.2)
  | .tand a b, e => (tstOf (ev a e)).bind fun q => if q.1 = true then (tstOf (ev b q.2)).bind fun r => .ok (.val (.sh (.bl r.1)), r.2) else .ok (.val (.sh (.bl false)), q.2)
  | .tor a b, e => (tstOf (ev a e)).bind fun q => if q.1 = true then .ok (.val (.sh (.bl true)), q.2) else (tstOf (ev b q.2)).bind fun r => .ok (.val (.sh (.bl r.1)), r.2)
  | .vand a b, e => (valOf (ev a e)).bind fun q => (ofO q.1.d).bind fun d => (ofO d.truth).bind fun k => if k = true then (valOf (ev b q.2)).bind fun r => .ok (.val r.1.down, r.2) else .ok (.val (.sh d), q.2)
  | .vor a b, e => (valOf (ev a e)).bind fun q => (ofO q.1.d).bind fun d => (ofO d.truth).bind fun k => if k = true then .ok (.val (.sh d), q.2) else (valOf (ev b q.2)).bind fun r => .ok (.val r.1.down, r.2)
  | .vnot a, e => (valOf (ev a e)).bind fun q => (ofO (q.1.d.bind D.truth)).bind fun b => .ok (.val (.sh (.bl (!b))), q.2)
  | .ife c a b, e => (tstOf (ev c e)).bind fun q => if q.1 = true then ev a q.2 else ev b q.2
  | .chn o o2 a b c, e => (valOf (ev a e)).bind fun q => (valOf (ev b q.2)).bind fun r => match q.1.d, r.1.d with
    | some x, some y => (ofO (pCop o x y)).bind fun k => if k = true then (valOf (ev c r.2)).bind fun s => (match s.1.d with
        | some z => (ofO (pCop o2 y z)).bind fun k2 => .ok (.val (.sh (.bl k2)), s.2)
        | none => .bad)
      else .ok (.val (.sh (.bl false)), r.2)
    | _, _ => .bad
  | .tcp op es, e => (argsOf (ev es e)).bind fun p => match look p.2 p.1 with
    | some [a, b] => (ofO (pCop op a b)).bind fun s => .ok (.val (.sh (.bl s)), p.2)
    | _ => .bad
  | .tch o o2 a b c, e => (valOf (ev a e)).bind fun q => (valOf (ev b q.2)).bind fun r => match q.1.d, r.1.d with
    | some x, some y => (ofO (pCop o x y)).bind fun k => if k = true then (valOf (ev c r.2)).bind fun s => (match s.1.d with
        | some z => (ofO (pCop o2 y z)).bind fun k2 => .ok (.val (.sh (.bl k2)), s.2)
        | none => .bad)
      else .ok (.val (.sh (.bl false)), r.2)
    | _, _ => .bad
  | .itV a, e => (valOf (ev a e)).bind fun q => match q.1.d with
    | some d => (ofO (seqOf d)).bind fun ds => .ok (.its ds, q.2)
    | none => .bad
  | .itR es, e => (argsOf (ev es e)).bind fun p => match look p.2 p.1 with
    | some [.int j] => if inI62 j then .ok (.its (rngL 0 j), p.2) else .bad
    | _ => .bad
  | .itR2 es, e => (argsOf (ev es e)).bind fun p => match look p.2 p.1 with
    | some [.int i, .int j] => if inI62 i && inI62 j then .ok (.its (rngL i j), p.2) else .bad
    | _ => .bad
  | .ifN, e => .ok (.val (.sh (.bl true)), e)
  | .ifC c, e => ev c e
  | .lc own tg it ifs x, e =>
    (itsOf (ev it e)).bind fun q => if noOw q.2 own then
      (lcL (fun d e1 => match take tg d (wipeE e1 own) with
        | some e2 => (tstOf (ev ifs e2)).bind fun r => if r.1 = true then (valOf (ev x r.2)).bind fun s => (ofO s.1.d).bind fun y => .ok (.opt (some y), s.2) else .ok (.opt none, r.2)
        | none => .bad) q.1 q.2).bind fun p => if p.1.length < sizeLine then .ok (.val (.ow (.lst p.1)), rest q.2 p.2 own) else .bad
      else .bad
  | .lcO own i tg ifs x, e => match e[i]? with
    | some (.ow (.lst _)) => if noOw e own then
      (lcOL (fun d e1 => match take tg d (wipeE e1 own) with
        | some e2 => (tstOf (ev ifs e2)).bind fun r => if r.1 = true then (valOf (ev x r.2)).bind fun s => (ofO s.1.d).bind fun y => .ok (.opt (some y), s.2) else .ok (.opt none, r.2)
        | none => .bad) i G.lim 0 e).bind fun p => if p.1.length < sizeLine then .ok (.val (.ow (.lst p.1)), rest e p.2 own) else .bad
      else .bad
    | some (.sh d) => (ofO (seqOf d)).bind fun ds => if noOw e own then
      (lcL (fun d e1 => match take tg d (wipeE e1 own) with
        | some e2 => (tstOf (ev ifs e2)).bind fun r => if r.1 = true then (valOf (ev x r.2)).bind fun s => (ofO s.1.d).bind fun y => .ok (.opt (some y), s.2) else .ok (.opt none, r.2)
        | none => .bad) ds e).bind fun p => if p.1.length < sizeLine then .ok (.val (.ow (.lst p.1)), rest e p.2 own) else .bad
      else .bad
    | _ => .bad
  | .lc2 own own1 tg it ifs tg1 it1 ifs1 x, e =>
    (itsOf (ev it e)).bind fun q => if noOw q.2 own then
      (lcL2 (fun d e1 => match take tg d (wipeE e1 own) with
        | some e2 => (tstOf (ev ifs e2)).bind fun r => if r.1 = true then (itsOf (ev it1 r.2)).bind fun q1 => lcL (fun d1 e3 => match take tg1 d1 (wipeE e3 own1) with
            | some e4 => (tstOf (ev ifs1 e4)).bind fun r1 => if r1.1 = true then (valOf (ev x r1.2)).bind fun s => (ofO s.1.d).bind fun y => .ok (.opt (some y), s.2) else .ok (.opt none, r1.2)
            | none => .bad) q1.1 q1.2 else .ok ([], r.2)
        | none => .bad) q.1 q.2).bind fun p => if p.1.length < sizeLine then .ok (.val (.ow (.lst p.1)), rest q.2 p.2 own) else .bad
      else .bad
  | .skip, e => .ok (.fl .nx, e)
  | .seq a b, e => (flOf (ev a e)).bind fun q => match q.1 with
    | .nx => ev b q.2
    | f => .ok (.fl f, q.2)
  | .exs a, e => (valOf (ev a e)).bind fun q => .ok (.fl .nx, q.2)
  | .asg t a, e => (valOf (ev a e)).bind fun q => match t with
    | .tN i => if i < q.2.length then .ok (.fl .nx, q.2.set i q.1) else .bad
    | t => (ofO q.1.d).bind fun d => (ofO (take t d q.2)).bind fun e' => .ok (.fl .nx, e')
  | .aug i op a, e => match e[i]? with
    | some (.sh (.int x)) => (valOf (ev a e)).bind fun q => (match q.1.d with
      | some (.int y) => (ofO (augI op x y)).bind fun z => .ok (.fl .nx, q.2.set i (.sh (.int z)))
      | _ => .bad)
    | _ => .bad
  | .app i a, e => match e[i]? with
    | some (.ow (.lst _)) => (valOf (ev a e)).bind fun q => (match q.2[i]?, q.1.d with
      | some (.ow (.lst xs)), some d => if xs.length < sizeLine then .ok (.fl .nx, q.2.set i (.ow (.lst (xs ++ [d])))) else .bad
      | _, _ => .bad)
    | _ => .bad
  | .sti i k a, e => (valOf (ev a e)).bind fun q => match q.2[i]? with
    | some (.ow _) => (valOf (ev k q.2)).bind fun r => (match r.2[i]?, r.1.d, q.1.d with
      | some (.ow (.lst xs)), some (.int j), some d => (match ixN xs.length j with
        | some m => .ok (.fl .nx, r.2.set i (.ow (.lst (xs.set m d))))
        | none => .bad)
      | _, _, _ => .bad)
    | _ => .bad
  | .raiseS x, _ => .ex x
  | .tryA i x b, e => if i < e.length then caught G x (fun s => .str s) (ev b e) e else .bad
  | .tryT i x w b, e => if i < e.length then caught G x (fun s => .tup [.str w, .str s]) (ev b e) e else .bad
  | .tupR es, e => (argsOf (ev es e)).bind fun p => match look p.2 p.1 with
    | some ds => (ofO (pTupR ds)).bind fun s => .ok (.val s, p.2)
    | _ => .bad
  | .tupR2 es, e => (argsOf (ev es e)).bind fun p => match look p.2 p.1 with
    | some ds => (ofO (pTupR ds)).bind fun s => .ok (.val s, p.2)
    | _ => .bad
  | .lstR es, e => (argsOf (ev es e)).bind fun p => match look p.2 p.1 with
    | some ds => (ofO (pLstR ds)).bind fun s => .ok (.val s, p.2)
    | _ => .bad
  | .lstR2 es, e => (argsOf (ev es e)).bind fun p => match look p.2 p.1 with
    | some ds => (ofO (pLstR ds)).bind fun s => .ok (.val s, p.2)
    | _ => .bad
  | .ret a, e => (valOf (ev a e)).bind fun q => .ok (.fl (.rt q.1), q.2)
  | .retN, e => .ok (.fl (.rt (.sh .non)), e)
  | .ifS c a b, e => (tstOf (ev c e)).bind fun q => if q.1 = true then ev a q.2 else ev b q.2
  | .forS t it b, e => (itsOf (ev it e)).bind fun q => forL (fun d e1 => match take t d e1 with
    | some e2 => ev b e2
    | none => .bad) q.1 q.2
  | .forO i t b, e => match e[i]? with
    | some (.ow (.lst _)) => forOL (fun d e1 => match take t d e1 with
      | some e2 => ev b e2
      | none => .bad) i G.lim 0 e
    | some (.sh d) => (ofO (seqOf d)).bind fun ds => forL (fun d e1 => match take t d e1 with
      | some e2 => ev b e2
      | none => .bad) ds e
    | _ => .bad
  | .whl c b, e => whL (fun e1 => ev c e1) (fun e1 => ev b e1) G.lim e
  | .brk, e => .ok (.fl .bk, e)
  | .cnt, e => .ok (.fl .ct, e)
  | .pas, e => .ok (.fl .nx, e)
  | _, _ => .bad
end

/-- a def: its parameters, its names in all, for each parameter whether it is never stored, its body -/
structure FDef where
  np : Nat
  ns : Nat
  fix : List Bool
  body : I
/-- what the parameters hold at the end: one that was owned and is never stored tells what it owns now -/
def outs : List Bool → List Sl → Env → List Sl
  | true :: bs, .ow _ :: ss, s :: e => s :: outs bs ss e
  | false :: bs, .ow _ :: ss, _ :: e => .mv :: outs bs ss e
  | _ :: bs, s :: ss, _ :: e => s :: outs bs ss e
  | _, ss, _ => ss.map fun s => match s with
    | .ow _ => .mv
    | s => s
abbrev FS := List (Nat × FDef)
def run (G : Sig) (fs : FS) : Nat → Nat → List Sl → Res (Sl × List Sl)
  | 0, _, _ => .bad
  | n + 1, f, ss => match fs.lookup f with
    | some F => if ss.length = F.np then
        (match ev G (run G fs n) F.body (ss ++ List.replicate (F.ns - F.np) .un) with
        | .ok (.fl .nx, e) => .ok (.sh .non, outs F.fix ss e)
        | .ok (.fl (.rt s), e) => .ok (s, outs F.fix ss e)
        | .ok _ => .bad
        | .ex c => .ex c
        | .bad => .bad)
      else .bad
    | none => .bad
end RF


namespace RF
open PySem PySem.Spec PyProof.Rows L2

abbrev St := L2.St
/-! ### what a plain value stands for -/
def none0 : Hp := fun _ => none
/-- a list (a tuple) to be read that keeps within ok, or one of the module's own -/
def SLo (K : PySem.W.Frag) (ok : Addr → Prop) (H : Hp) (a : Addr) (xs : List V) : Prop := (Rd H a (.lst xs) ∧ ok a) ∨ SqL K none0 a xs
def STo (K : PySem.W.Frag) (ok : Addr → Prop) (H : Hp) (a : Addr) (xs : List V) : Prop := (Rd H a (.tup xs) ∧ ok a) ∨ SqT K none0 a xs
theorem none0_rd {a : Addr} {u : HO} (h : Rd none0 a u) : False := by
  rcases h with h | ⟨_, h⟩ <;> cases h
theorem SLo.sq {K : PySem.W.Frag} {ok : Addr → Prop} {H : Hp} {a : Addr} {xs : List V} (h : SLo K ok H a xs) : SqL K H a xs := by
  rcases h with h | h
  · exact .inl h.1
  · rcases h with h | h
    · exact (none0_rd h).elim
    · exact .inr h
theorem STo.sq {K : PySem.W.Frag} {ok : Addr → Prop} {H : Hp} {a : Addr} {xs : List V} (h : STo K ok H a xs) : SqT K H a xs := by
  rcases h with h | h
  · exact .inl h.1
  · rcases h with h | h
    · exact (none0_rd h).elim
    · exact .inr h
def keyD : Key → D
  | .inl i => .int i
  | .inr s => .str s
mutual
inductive Rep (K : PySem.W.Frag) (ok : Addr → Prop) (H : Hp) : V → D → Prop
  | non : Rep K ok H .non .non
  | bl (b : Bool) : Rep K ok H (.bl b) (.bl b)
  | int (i : Int) : Rep K ok H (.int i) (.int i)
  | str (s : Str) : Rep K ok H (.str s) (.str s)
  | ty (n : String) : Rep K ok H (.ty n) (.ty n)
  | opq (a : Addr) : Rep K ok H (.ref a) (.opq a)
  | tup {a : Addr} {xs : List V} {ds : List D} : STo K ok H a xs → Reps K ok H xs ds → Rep K ok H (.ref a) (.tup ds)
  | lst {a : Addr} {xs : List V} {ds : List D} : SLo K ok H a xs → Reps K ok H xs ds → Rep K ok H (.ref a) (.lst ds)
  | dic {a : Addr} {kvs : List (Key × V)} {ds : List D} : H a = some (.dK kvs) → ok a → RepK K ok H kvs ds → Rep K ok H (.ref a) (.dic ds)
  | dit {a : Addr} {kvs : List (List Key × V)} {ds : List D} : H a = some (.dT kvs) → ok a → RepT K ok H kvs ds → Rep K ok H (.ref a) (.dic ds)
inductive Reps (K : PySem.W.Frag) (ok : Addr → Prop) (H : Hp) : List V → List D → Prop
  | nil : Reps K ok H [] []
  | cons {v : V} {vs : List V} {d : D} {ds : List D} : Rep K ok H v d → Reps K ok H vs ds → Reps K ok H (v :: vs) (d :: ds)
inductive RepK (K : PySem.W.Frag) (ok : Addr → Prop) (H : Hp) : List (Key × V) → List D → Prop
  | nil : RepK K ok H [] []
  | cons {k : Key} {v : V} {vs : List (Key × V)} {d : D} {ds : List D} : Rep K ok H v d → RepK K ok H vs ds → RepK K ok H ((k, v) :: vs) (.tup [keyD k, d] :: ds)
inductive RepT (K : PySem.W.Frag) (ok : Addr → Prop) (H : Hp) : List (List Key × V) → List D → Prop
  | nil : RepT K ok H [] []
  | cons {k : List Key} {v : V} {vs : List (List Key × V)} {d : D} {ds : List D} : Rep K ok H v d → RepT K ok H vs ds → RepT K ok H ((k, v) :: vs) (.tup [.tup (k.map keyD), d] :: ds)
end
section
variable {K : PySem.W.Frag} {ok ok' : Addr → Prop} {H H' : Hp}
theorem SLo.mono (m : ∀ a o, ok a → H a = some o → ok' a ∧ H' a = some o) {a : Addr} {xs : List V} (h : SLo K ok H a xs) : SLo K ok' H' a xs := by
  rcases h with ⟨h, k⟩ | h
  · rcases h with h | ⟨o, h⟩
    · exact .inl ⟨.inl (m _ _ k h).2, (m _ _ k h).1⟩
    · exact .inl ⟨.inr ⟨o, (m _ _ k h).2⟩, (m _ _ k h).1⟩
  · exact .inr h
theorem STo.mono (m : ∀ a o, ok a → H a = some o → ok' a ∧ H' a = some o) {a : Addr} {xs : List V} (h : STo K ok H a xs) : STo K ok' H' a xs := by
  rcases h with ⟨h, k⟩ | h
  · rcases h with h | ⟨o, h⟩
    · exact .inl ⟨.inl (m _ _ k h).2, (m _ _ k h).1⟩
    · exact .inl ⟨.inr ⟨o, (m _ _ k h).2⟩, (m _ _ k h).1⟩
  · exact .inr h
mutual
theorem Rep.mono (m : ∀ a o, ok a → H a = some o → ok' a ∧ H' a = some o) : ∀ {v : V} {d : D}, Rep K ok H v d → Rep K ok' H' v d
  | _, _, .non => .non
  | _, _, .bl b => .bl b
  | _, _, .int i => .int i
  | _, _, .str s => .str s
  | _, _, .ty n => .ty n
  | _, _, .opq a => .opq a
  | _, _, .tup h r => .tup (h.mono m) (Reps.mono m r)
  | _, _, .lst h r => .lst (h.mono m) (Reps.mono m r)
  | _, _, .dic h k r => .dic (m _ _ k h).2 (m _ _ k h).1 (RepK.mono m r)
  | _, _, .dit h k r => .dit (m _ _ k h).2 (m _ _ k h).1 (RepT.mono m r)
theorem Reps.mono (m : ∀ a o, ok a → H a = some o → ok' a ∧ H' a = some o) : ∀ {v : List V} {d : List D}, Reps K ok H v d → Reps K ok' H' v d
  | _, _, .nil => .nil
  | _, _, .cons r s => .cons (Rep.mono m r) (Reps.mono m s)
theorem RepK.mono (m : ∀ a o, ok a → H a = some o → ok' a ∧ H' a = some o) : ∀ {v : List (Key × V)} {d : List D}, RepK K ok H v d → RepK K ok' H' v d
  | _, _, .nil => .nil
  | _, _, .cons r s => .cons (Rep.mono m r) (RepK.mono m s)
theorem RepT.mono (m : ∀ a o, ok a → H a = some o → ok' a ∧ H' a = some o) : ∀ {v : List (List Key × V)} {d : List D}, RepT K ok H v d → RepT K ok' H' v d
  | _, _, .nil => .nil
  | _, _, .cons r s => .cons (Rep.mono m r) (RepT.mono m s)
end
theorem Reps.length : ∀ {vs : List V} {ds : List D}, Reps K ok H vs ds → vs.length = ds.length
  | _, _, .nil => rfl
  | _, _, .cons _ s => by rw [List.length_cons, List.length_cons, Reps.length s]
theorem Reps.get : ∀ {vs : List V} {ds : List D} {i : Nat} {d : D}, Reps K ok H vs ds → ds[i]? = some d → ∃ v, vs[i]? = some v ∧ Rep K ok H v d
  | _, _, _, _, .nil, e => by simp at e
  | _, _, 0, _, .cons r _, e => by simp at e; subst e; exact ⟨_, rfl, r⟩
  | _, _, i + 1, d, .cons _ s, e => by
    obtain ⟨v, h1, h2⟩ := Reps.get (i := i) (d := d) s (by simpa using e)
    exact ⟨v, by simpa using h1, h2⟩
theorem Reps.append : ∀ {vs ws : List V} {ds es : List D}, Reps K ok H vs ds → Reps K ok H ws es → Reps K ok H (vs ++ ws) (ds ++ es)
  | _, _, _, _, .nil, s => s
  | _, _, _, _, .cons r s, t => .cons r (Reps.append s t)
theorem Reps.set {v : V} {d : D} (r : Rep K ok H v d) : ∀ {vs : List V} {ds : List D} (i : Nat), Reps K ok H vs ds → Reps K ok H (vs.set i v) (ds.set i d)
  | _, _, _, .nil => .nil
  | _, _, 0, .cons _ s => .cons r s
  | _, _, i + 1, .cons q s => .cons q (Reps.set r i s)
theorem Reps.take : ∀ {vs : List V} {ds : List D} (n : Nat), Reps K ok H vs ds → Reps K ok H (vs.take n) (ds.take n)
  | _, _, 0, _ => .nil
  | _, _, _ + 1, .nil => .nil
  | _, _, n + 1, .cons r s => .cons r (Reps.take n s)
theorem Reps.drop : ∀ {vs : List V} {ds : List D} (n : Nat), Reps K ok H vs ds → Reps K ok H (vs.drop n) (ds.drop n)
  | _, _, 0, r => r
  | _, _, _ + 1, .nil => .nil
  | _, _, n + 1, .cons _ s => Reps.drop n s
theorem Reps.cut {vs : List V} {ds : List D} (lo hi : Option Int) (r : Reps K ok H vs ds) : Reps K ok H (cutV vs lo hi) (cutL ds lo hi) := by
  unfold cutV cutL
  rw [r.length]
  exact (r.drop _).take _

/-- the owned thing at a -/
def OwnAt (K : PySem.W.Frag) (ok : Addr → Prop) (H : Hp) (a : Addr) : D → Prop
  | .lst ds => ∃ vs, H a = some (.lst vs) ∧ Reps K ok H vs ds
  | .dic ds => (∃ kvs, H a = some (.dK kvs) ∧ RepK K ok H kvs ds) ∨ (∃ kvs, H a = some (.dT kvs) ∧ RepT K ok H kvs ds)
  | _ => False
theorem OwnAt.mono {a : Addr} {d : D} (m : ∀ b o, ok b → H b = some o → ok' b ∧ H' b = some o) (ha : ∀ o, H a = some o → H' a = some o) (h : OwnAt K ok H a d) : OwnAt K ok' H' a d := by
  cases d with
  | lst ds => obtain ⟨vs, h1, h2⟩ := h; exact ⟨vs, ha _ h1, h2.mono m⟩
  | dic ds =>
    rcases h with ⟨vs, h1, h2⟩ | ⟨vs, h1, h2⟩
    · exact .inl ⟨vs, ha _ h1, h2.mono m⟩
    · exact .inr ⟨vs, ha _ h1, h2.mono m⟩
  | _ => exact h
theorem OwnAt.some {a : Addr} {d : D} (h : OwnAt K ok H a d) : ∃ o, H a = some o ∧ ∀ xs, o ≠ .tup xs := by
  cases d with
  | lst ds => obtain ⟨vs, h1, h2⟩ := h; exact ⟨_, h1, fun _ e => by cases e⟩
  | dic ds =>
    rcases h with ⟨vs, h1, h2⟩ | ⟨vs, h1, h2⟩
    · exact ⟨_, h1, fun _ e => by cases e⟩
    · exact ⟨_, h1, fun _ e => by cases e⟩
  | _ => exact h.elim
/-- an owned thing is a value once its address is let into ok -/
theorem OwnAt.rep {a : Addr} {d : D} (h : OwnAt K ok H a d) (ka : ok a) : Rep K ok H (.ref a) d := by
  cases d with
  | lst ds => obtain ⟨vs, h1, h2⟩ := h; exact .lst (.inl ⟨.inl h1, ka⟩) h2
  | dic ds =>
    rcases h with ⟨vs, h1, h2⟩ | ⟨vs, h1, h2⟩
    · exact .dic h1 ka h2
    · exact .dit h1 ka h2
  | _ => exact h.elim
end

/-! ### the names of a def and the heap -/
/-- the addresses that the names own -/
def Own (e : Env) (σ : St) (a : Addr) : Prop := ∃ (i : Nat) (d : D), e[i]? = some (.ow d) ∧ σ[i]? = some (some (.ref a))
/-- neither kept aside (Z) nor owned -/
def Free (Z : Addr → Prop) (e : Env) (σ : St) (a : Addr) : Prop := ¬ Z a ∧ ¬ Own e σ a
/-- all but M stands -/
def Keeps (M : Addr → Prop) (H H' : Hp) : Prop := ∀ a o, H a = some o → ¬ M a → H' a = some o
structure EnvOk (K : PySem.W.Frag) (Z : Addr → Prop) (e : Env) (σ : St) (H : Hp) : Prop where
  len : e.length = σ.length
  sh : ∀ (i : Nat) (d : D), e[i]? = some (.sh d) → ∃ v, σ[i]? = some (some v) ∧ Rep K (Free Z e σ) H v d
  ow : ∀ (i : Nat) (d : D), e[i]? = some (.ow d) → ∃ a, σ[i]? = some (some (.ref a)) ∧ ¬ Z a ∧ OwnAt K (Free Z e σ) H a d
  inj : ∀ (i j : Nat) (d d' : D) (a : Addr), e[i]? = some (.ow d) → e[j]? = some (.ow d') → σ[i]? = some (some (.ref a)) → σ[j]? = some (some (.ref a)) → i = j
  dom : ∀ a, Z a → ∃ o, H a = some o

/-- the address that a value owns -/
def zOf (v : V) : Sl → Addr → Prop
  | .ow _, a => v = .ref a
  | _, _ => False
/-- .. with what was aside -/
def Zp (Z : Addr → Prop) (v : V) (s : Sl) : Addr → Prop := fun a => Z a ∨ zOf v s a
def VOk (K : PySem.W.Frag) (Z : Addr → Prop) (e : Env) (σ : St) (H : Hp) (v : V) : Sl → Prop
  | .sh d => Rep K (Free Z e σ) H v d
  | .ow d => ∃ a, v = .ref a ∧ ¬ Z a ∧ ¬ Own e σ a ∧ OwnAt K (Free (Zp Z v (.ow d)) e σ) H a d
  | _ => False
/-- behind a step: from e, H to e', H' at the same names -/
structure Post (K : PySem.W.Frag) (Z : Addr → Prop) (e : Env) (σ : St) (H : Hp) (e' : Env) (H' : Hp) : Prop where
  keep : Keeps (Own e σ) H H'
  own : ∀ a, Own e' σ a → Own e σ a
section
variable {K : PySem.W.Frag} {Z Z' : Addr → Prop} {e e' e'' : Env} {σ : St} {H H' H'' : Hp}
theorem Keeps.refl {M : Addr → Prop} : Keeps M H H := fun _ _ h _ => h
theorem Keeps.trans {M M' : Addr → Prop} (h : Keeps M H H') (h' : Keeps M' H' H'') (m : ∀ a o, H a = some o → M' a → M a) : Keeps M H H'' := fun a o x n => h' a o (h a o x n) fun k => n (m a o x k)
theorem Post.refl : Post K Z e σ H e H := ⟨.refl, fun _ h => h⟩
theorem Post.trans {Z'' : Addr → Prop} (p : Post K Z e σ H e' H') (q : Post K Z'' e' σ H' e'' H'') : Post K Z e σ H e'' H'' :=
  ⟨p.keep.trans q.keep fun a _ _ h => p.own a h, fun a h => p.own a (q.own a h)⟩
/-- an owned address stands in the heap -/
theorem EnvOk.own_some (E : EnvOk K Z e σ H) {a : Addr} (h : Own e σ a) : ∃ o, H a = some o ∧ ∀ xs, o ≠ .tup xs := by
  obtain ⟨i, d, h1, h2⟩ := h
  obtain ⟨b, h3, _, h4⟩ := E.ow i d h1
  rw [h2] at h3; cases h3
  exact h4.some
theorem EnvOk.own_nz (E : EnvOk K Z e σ H) {a : Addr} (h : Own e σ a) : ¬ Z a := by
  obtain ⟨i, d, h1, h2⟩ := h
  obtain ⟨b, h3, nz, h4⟩ := E.ow i d h1
  rw [h2] at h3; cases h3
  exact nz
/-- a new address is free -/
theorem EnvOk.new_free (E : EnvOk K Z e σ H) {a : Addr} (h : H a = none) : Free Z e σ a := by
  refine ⟨fun z => ?_, fun o => ?_⟩
  · obtain ⟨o, k⟩ := E.dom a z
    rw [h] at k; cases k
  · obtain ⟨o, k, _⟩ := E.own_some o
    rw [h] at k; cases k
/-- the heap grows: all that stood stands -/
theorem EnvOk.grow (E : EnvOk K Z e σ H) (k : ∀ a o, H a = some o → H' a = some o) : EnvOk K Z e σ H' := by
  refine ⟨E.len, fun i d h => ?_, fun i d h => ?_, E.inj, fun a z => ?_⟩
  · obtain ⟨v, h1, h2⟩ := E.sh i d h
    exact ⟨v, h1, h2.mono fun a o f x => ⟨f, k a o x⟩⟩
  · obtain ⟨a, h1, h2, h3⟩ := E.ow i d h
    exact ⟨a, h1, h2, h3.mono (fun a o f x => ⟨f, k a o x⟩) fun o x => k _ _ x⟩
  · obtain ⟨o, x⟩ := E.dom a z
    exact ⟨o, k a o x⟩
/-- a value stays a value behind a step -/
theorem Rep.post {v : V} {d : D} {Z'' : Addr → Prop} (r : Rep K (Free Z e σ) H v d) (p : Post K Z'' e σ H e' H') : Rep K (Free Z e' σ) H' v d :=
  r.mono fun a o f x => ⟨⟨f.1, fun h => f.2 (p.own a h)⟩, p.keep a o x f.2⟩
theorem VOk.post {v : V} {s : Sl} {Z'' : Addr → Prop} (r : VOk K Z e σ H v s) (p : Post K Z'' e σ H e' H') : VOk K Z e' σ H' v s := by
  cases s with
  | sh d => exact Rep.post r p
  | ow d =>
    obtain ⟨a, h1, h2, h3, h4⟩ := r
    exact ⟨a, h1, h2, fun h => h3 (p.own a h), h4.mono (fun a o f x => ⟨⟨f.1, fun h => f.2 (p.own a h)⟩, p.keep a o x f.2⟩) fun o x => p.keep a o x h3⟩
  | un => exact r
  | mv => exact r
/-- less is set aside -/
theorem EnvOk.less (E : EnvOk K Z e σ H) (h : ∀ a, Z' a → Z a) : EnvOk K Z' e σ H := by
  refine ⟨E.len, fun i d q => ?_, fun i d q => ?_, E.inj, fun a z => E.dom a (h a z)⟩
  · obtain ⟨v, h1, h2⟩ := E.sh i d q
    exact ⟨v, h1, h2.mono fun a o f x => ⟨⟨fun z => f.1 (h a z), f.2⟩, x⟩⟩
  · obtain ⟨a, h1, h2, h3⟩ := E.ow i d q
    exact ⟨a, h1, fun z => h2 (h a z), h3.mono (fun a o f x => ⟨⟨fun z => f.1 (h a z), f.2⟩, x⟩) fun o x => x⟩
/-- a value, its address let go -/
theorem VOk.down {v : V} {s : Sl} {d : D} (r : VOk K Z e σ H v s) (hd : s.d = some d) : Rep K (Free Z e σ) H v d := by
  cases s with
  | sh d' => cases hd; exact r
  | ow d' =>
    cases hd
    obtain ⟨a, rfl, h2, h3, h4⟩ := r
    exact (h4.mono (ok' := Free Z e σ) (fun b o f x => ⟨⟨fun z => f.1 (.inl z), f.2⟩, x⟩) fun o x => x).rep ⟨h2, h3⟩
  | un => cases hd
  | mv => cases hd
theorem EnvOk.let_go {v : V} {s : Sl} (E : EnvOk K (Zp Z v s) e σ H) : EnvOk K Z e σ H := E.less fun _ h => .inl h
end
end RF


namespace RF
open PySem PySem.Spec PyProof.Rows L2

/-! ### operations upon values -/
/-- a value, or an owned thing -/
def Arg (K : PySem.W.Frag) (ok : Addr → Prop) (H : Hp) (v : V) (d : D) : Prop := Rep K ok H v d ∨ ∃ a, v = .ref a ∧ OwnAt K ok H a d
/-- what an operation gives -/
def PVal (K : PySem.W.Frag) (ok : Addr → Prop) (H H' : Hp) (v : V) : Sl → Prop
  | .sh d => Rep K ok H' v d
  | .ow d => ∃ a, v = .ref a ∧ H a = none ∧ OwnAt K (fun b => ok b ∧ b ≠ a) H' a d
  | _ => False
structure PPost (K : PySem.W.Frag) (ok : Addr → Prop) (H H' : Hp) (v : V) (s : Sl) : Prop where
  grow : ∀ a o, H a = some o → H' a = some o
  val : PVal K ok H H' v s
def New (ok : Addr → Prop) (H : Hp) : Prop := ∀ a, H a = none → ok a
section
variable {K : PySem.W.Frag} {ok : Addr → Prop} {H H' : Hp} {v u : V} {d : D}
theorem grow_upd {a : Addr} {o : HO} (n : H a = none) : ∀ b u, H b = some u → upd H a o b = some u := fun b u e => by
  rw [upd_ne (ne_of_none e n)]; exact e
theorem Arg.int {i : Int} (h : Arg K ok H v (.int i)) : v = .int i := by
  rcases h with h | ⟨a, _, h⟩
  · cases h; rfl
  · exact h.elim
theorem Arg.bl {i : Bool} (h : Arg K ok H v (.bl i)) : v = .bl i := by
  rcases h with h | ⟨a, _, h⟩
  · cases h; rfl
  · exact h.elim
theorem Arg.str {i : Str} (h : Arg K ok H v (.str i)) : v = .str i := by
  rcases h with h | ⟨a, _, h⟩
  · cases h; rfl
  · exact h.elim
theorem Arg.non (h : Arg K ok H v .non) : v = .non := by
  rcases h with h | ⟨a, _, h⟩
  · cases h; rfl
  · exact h.elim
theorem Arg.ty {n : String} (h : Arg K ok H v (.ty n)) : v = .ty n := by
  rcases h with h | ⟨a, _, h⟩
  · cases h; rfl
  · exact h.elim
theorem Arg.lst {ds : List D} (h : Arg K ok H v (.lst ds)) : ∃ a xs, v = .ref a ∧ SqL K H a xs ∧ Reps K ok H xs ds := by
  rcases h with h | ⟨a, e, vs, h1, h2⟩
  · cases h with
    | lst h r => exact ⟨_, _, rfl, h.sq, r⟩
  · exact ⟨a, vs, e, SqL.of h1, h2⟩
theorem Arg.tup {ds : List D} (h : Arg K ok H v (.tup ds)) : ∃ a xs, v = .ref a ∧ SqT K H a xs ∧ Reps K ok H xs ds := by
  rcases h with h | ⟨a, _, h⟩
  · cases h with
    | tup h r => exact ⟨_, _, rfl, h.sq, r⟩
  · exact h.elim
theorem Arg.tupR {ds : List D} (h : Arg K ok H v (.tup ds)) : Rep K ok H v (.tup ds) := by
  rcases h with h | ⟨a, _, h⟩
  · exact h
  · exact h.elim
/-- plain numbers and the like -/
theorem ppost_sh {d : D} (r : Rep K ok H v d) : PPost K ok H H v (.sh d) := ⟨fun _ _ e => e, r⟩
theorem ppost_lst {a : Addr} {xs : List V} {ds : List D} (n : H a = none) (r : Reps K ok H xs ds) : PPost K ok H (upd H a (.lst xs)) (.ref a) (.ow (.lst ds)) :=
  ⟨grow_upd n, a, rfl, n, xs, upd_same, r.mono fun b o k e => ⟨⟨k, ne_of_none e n⟩, grow_upd n b o e⟩⟩
theorem ppost_tup {a : Addr} {xs : List V} {ds : List D} (hn : New ok H) (n : H a = none) (r : Reps K ok H xs ds) : PPost K ok H (upd H a (.tup xs)) (.ref a) (.sh (.tup ds)) :=
  ⟨grow_upd n, .tup (.inl ⟨.inl upd_same, hn a n⟩) (r.mono fun b o k e => ⟨k, grow_upd n b o e⟩)⟩
end
def rP1 (K : PySem.W.Frag) (p : D → Option Sl) : V → Hp → VK → Prop := fun x H Q => ∃ da s ok, p da = some s ∧ New ok H ∧ Arg K ok H x da ∧ ∀ v H', PPost K ok H H' v s → Q v H'
def rP2 (K : PySem.W.Frag) (p : D → D → Option Sl) : R2 := fun x y H Q => ∃ da db s ok, p da db = some s ∧ New ok H ∧ Arg K ok H x da ∧ Arg K ok H y db ∧ ∀ v H', PPost K ok H H' v s → Q v H'
inductive Args (K : PySem.W.Frag) (ok : Addr → Prop) (H : Hp) : List V → List D → Prop
  | nil : Args K ok H [] []
  | cons {v : V} {vs : List V} {d : D} {ds : List D} : Arg K ok H v d → Args K ok H vs ds → Args K ok H (v :: vs) (d :: ds)
def rPn (K : PySem.W.Frag) (p : List D → Option Sl) : List V → Hp → VK → Prop := fun xs H Q => ∃ ds s ok, p ds = some s ∧ New ok H ∧ Args K ok H xs ds ∧ ∀ v H', PPost K ok H H' v s → Q v H'

/-! ### plain data as the library has them -/
mutual
theorem eqv_py : ∀ (n m : Nat) (x y : D), x.pl n = true → y.pl m = true → PyData.eqv x.py y.py = D.eqv x y
  | n, m, x, y, hx, hy => by
    cases x <;> cases y <;> first
      | rfl
      | (cases n <;> simp [D.pl] at hx; done)
      | (cases m <;> simp [D.pl] at hy; done)
      | skip
    · rename_i xs ys
      cases n with
      | zero => simp [D.pl] at hx
      | succ n =>
        cases m with
        | zero => simp [D.pl] at hy
        | succ m =>
          rw [D.pl] at hx hy
          rw [D.py, D.py, PyData.eqv, D.eqv]
          exact eqvs_py n m xs ys hx hy
    · rename_i xs ys
      cases n with
      | zero => simp [D.pl] at hx
      | succ n =>
        cases m with
        | zero => simp [D.pl] at hy
        | succ m =>
          rw [D.pl] at hx hy
          rw [D.py, D.py, PyData.eqv, D.eqv]
          exact eqvs_py n m xs ys hx hy
theorem eqvs_py : ∀ (n m : Nat) (xs ys : List D), D.pls n xs = true → D.pls m ys = true → PyData.eqvAll (D.pys xs) (D.pys ys) = D.eqvs xs ys
  | n, m, [], [], _, _ => rfl
  | n, m, [], _ :: _, _, _ => rfl
  | n, m, _ :: _, [], _, _ => rfl
  | n, m, x :: xs, y :: ys, hx, hy => by
    rw [D.pls, Bool.and_eq_true] at hx hy
    rw [D.pys, D.pys, PyData.eqvAll, D.eqvs, eqv_py n m x y hx.1 hy.1, eqvs_py n m xs ys hx.2 hy.2]
end
mutual
theorem lay_py : ∀ (n : Nat) (x : D), x.pl n = true → x.py.canLay0 = true ∧ x.py.depth ≤ n
  | n, x, hx => by
    cases x with
    | non => exact ⟨rfl, Nat.zero_le _⟩
    | bl b => exact ⟨rfl, Nat.zero_le _⟩
    | int b => exact ⟨rfl, Nat.zero_le _⟩
    | str s => refine ⟨?_, Nat.zero_le _⟩; cases n <;> exact hx
    | tup xs =>
      cases n with
      | zero => simp [D.pl] at hx
      | succ n =>
        rw [D.pl] at hx
        obtain ⟨h1, h2⟩ := lays_py n xs hx
        exact ⟨h1, Nat.succ_le_succ h2⟩
    | lst xs =>
      cases n with
      | zero => simp [D.pl] at hx
      | succ n =>
        rw [D.pl] at hx
        obtain ⟨h1, h2⟩ := lays_py n xs hx
        exact ⟨h1, Nat.succ_le_succ h2⟩
    | dic xs => cases n <;> simp [D.pl] at hx
    | ty xs => cases n <;> simp [D.pl] at hx
    | opq xs => cases n <;> simp [D.pl] at hx
theorem lays_py : ∀ (n : Nat) (xs : List D), D.pls n xs = true → PyData.canLayAll0 (D.pys xs) = true ∧ PyData.depthAll (D.pys xs) ≤ n
  | n, [], _ => ⟨rfl, Nat.zero_le _⟩
  | n, x :: xs, h => by
    rw [D.pls, Bool.and_eq_true] at h
    obtain ⟨h1, h2⟩ := lay_py n x h.1
    obtain ⟨h3, h4⟩ := lays_py n xs h.2
    refine ⟨?_, Nat.max_le.mpr ⟨h2, h4⟩⟩
    rw [D.pys, PyData.canLayAll0, h1, h3]
    rfl
end
theorem shaped_py {x : D} (h : x.pl deepest = true) : SeqAt.shaped x.py = true := by
  obtain ⟨h1, h2⟩ := lay_py _ x h
  unfold SeqAt.shaped
  rw [h1, decide_eq_true (Nat.le_trans h2 (by decide))]
  rfl
section
variable {K : PySem.W.Frag} {ok : Addr → Prop} {H : Hp}
mutual
theorem Rep.dp : ∀ {v : V} {d : D} (n : Nat), Rep K ok H v d → d.pl n = true → Dp K H v d.py
  | _, _, _, .non, _ => .non
  | _, _, _, .bl b, _ => .bl b
  | _, _, _, .int b, _ => .int b
  | _, _, _, .str b, _ => .str b
  | _, _, n, .ty b, h => by cases n <;> simp [D.pl] at h
  | _, _, n, .opq b, h => by cases n <;> simp [D.pl] at h
  | _, _, 0, .tup b r, h => by simp [D.pl] at h
  | _, _, n + 1, .tup b r, h => .tup b.sq (Reps.dp n r (by rw [D.pl] at h; exact h))
  | _, _, 0, .lst b r, h => by simp [D.pl] at h
  | _, _, n + 1, .lst b r, h => .lst b.sq (Reps.dp n r (by rw [D.pl] at h; exact h))
  | _, _, n, .dic _ _ _, h => by cases n <;> simp [D.pl] at h
  | _, _, n, .dit _ _ _, h => by cases n <;> simp [D.pl] at h
theorem Reps.dp : ∀ {vs : List V} {ds : List D} (n : Nat), Reps K ok H vs ds → D.pls n ds = true → DpAll K H vs (D.pys ds)
  | _, _, _, .nil, _ => .nil
  | _, _, n, .cons r s, h => by
    rw [D.pls, Bool.and_eq_true] at h
    exact .cons (Rep.dp n r h.1) (Reps.dp n s h.2)
end
theorem Arg.dp {v : V} {d : D} {n : Nat} (h : Arg K ok H v d) (p : d.pl n = true) : Dp K H v d.py := by
  rcases h with h | ⟨a, rfl, h⟩
  · exact h.dp n p
  · cases d with
    | lst ds =>
      obtain ⟨vs, h1, h2⟩ := h
      cases n with
      | zero => simp [D.pl] at p
      | succ n =>
        rw [D.pl] at p
        exact .lst (SqL.of h1) (h2.dp n p)
    | dic ds => cases n <;> simp [D.pl] at p
    | _ => exact h.elim
end
end RF


/-! RFX0: errors whose arguments are known to be none: the tuple of arguments stands in the abstract heap -/
namespace RF
open PySem PySem.Spec PyProof.Rows L2 HandSPX
def Arg0 (T : Addr) (o : Obj) : Prop := ∀ vs : Array Value, o.data = .fields vs → vs[0]? = some (.ref T)
theorem Arg0.steady {T : Addr} : PXN.Steady1 (Arg0 T) := fun o v h vs e => by
  obtain ⟨c, d, dt, sl⟩ := o
  cases dt with
  | fields vs0 =>
    have e2 : vs0.setIfInBounds 1 v = vs := Data.fields.inj e
    subst e2
    have := h vs0 rfl
    rw [Array.getElem?_setIfInBounds_ne (by decide)]
    exact this
  | _ => exact Data.noConfusion e
def Za (T : Addr) (cls : Value) (d : Option Addr) : Obj → Prop := fun o => Zc cls d o ∧ Arg0 T o
theorem Za.steady {T : Addr} {cls : Value} {d : Option Addr} : PXN.Steady1 (Za T cls d) :=
  PXN.steady_and (Z := Zc cls d) (Z' := Arg0 T) (PXN.steady_and (Z := fun o => o.cls = cls) (Z' := fun o => o.dict = d) PXN.steady_cls PXN.steady_dict) Arg0.steady
/-- u's arguments are the empty tuple at T, which H knows -/
def ArgH (u : Value) (h : Heap) (H : Hp) : Prop := ∃ (a T : Addr) (oe : Obj) (vs : Array Value), u = .ref a ∧ H T = some (.tup []) ∧ h.get? a = some oe ∧ oe.data = .fields vs ∧ vs[0]? = some (.ref T)
section
variable {B h : Heap} {l : List PySem.Env} {a L T : Addr} {cls : Value} {d : Option Addr} {Z Z' : Obj → Prop} {oe : Obj} {H : Hp}
theorem traced_up {fl : Value} (x : TracedZ h B a Z fl) (f : ∀ o, h.get? a = some o → Z o → Z' o) : TracedZ h B a Z' fl := by
  obtain ⟨o, vs, T, oT, ts, e, z, r⟩ := x
  exact ⟨o, vs, T, oT, ts, e, f o e z, r⟩
theorem sky_up (x : Sky B l a Z L h) (f : ∀ o, h.get? a = some o → Z o → Z' o) : Sky B l a Z' L h := by
  rcases x with ⟨h1, h2, h3, o, vs, e, z, r⟩ | ⟨h1, h2, h3, t⟩ | ⟨h1, h2, h3, t⟩
  · exact .inl ⟨h1, h2, h3, o, vs, e, f o e z, r⟩
  · exact .inr (.inl ⟨h1, h2, h3, traced_up t f⟩)
  · exact .inr (.inr ⟨h1, h2, h3, traced_up t f⟩)
theorem fly_up (x : FlyingZ B l a Z h) (f : ∀ o, h.get? a = some o → Z o → Z' o) : FlyingZ B l a Z' h := ⟨x.1, x.2.1, x.2.2.1, traced_up x.2.2.2 f⟩
theorem argH_up (g : ArgH (.ref a) h H) : ∃ T, H T = some (.tup []) ∧ ∀ o, h.get? a = some o → Zc cls d o → Za T cls d o := by
  obtain ⟨a', T, oe, vs, e, hT, ha, hd, h0⟩ := g
  cases e
  refine ⟨T, hT, fun o ho z => ⟨z, fun ws e => ?_⟩⟩
  rw [ha] at ho; cases ho
  rw [hd] at e; cases e
  exact h0
theorem argH_of {fl : Value} (x : TracedZ h B a (Za T cls d) fl) (hT : H T = some (.tup [])) : ArgH (.ref a) h H := by
  obtain ⟨o, vs, T', oT, ts, e, z, hd, r⟩ := x
  exact ⟨a, T, o, vs, rfl, hT, e, hd, z.2 vs hd⟩
end
def Takes (X : Cx) (W : WX) : Prop := ∀ u s', L2.XE X (fun c d σ H => W c d σ H ∧ ArgH u s'.heap H) u s' → X.xe u s'
def CXa (P : Program) (w : World) (outer : List PySem.Env) (H : Hp) (s : Shared) (E : XK) (u : Value) (s' : Shared) : Prop :=
  L2.CX P w outer H s (fun c d H' => E c d H' ∧ ArgH u s'.heap H') u s'
section
variable {X : Cx} {pins : List (Addr × Obj)} {σ : L2.St} {H : Hp} {s s' : Shared} {W : WX} {E : XK}
theorem Takes.imp {W' : WX} (t : Takes X W) (h : ∀ c d σ H, W' c d σ H → W c d σ H) : Takes X W' := fun u s' ⟨a, B, sI, pins, σ, H, cls, d, e, I, nb, up, sky, na, os, ag, w, g⟩ =>
  t u s' ⟨a, B, sI, pins, σ, H, cls, d, e, I, nb, up, sky, na, os, ag, h _ _ _ _ w, g⟩
theorem leave_a (hs : X.stack = X.env :: X.outer) (hf : X.env.frame = some X.env.locals) (hex : X.ex = []) {E₁ : Value → Shared → Prop} {u : Value} (x : L2.XE X (fun c d _ H => E c d H ∧ ArgH u s'.heap H) u s') :
    wpAny (model X.prog X.w) X.A (leaving X.env u) (fun _ s'' => CXa X.prog X.w X.outer X.H_0 X.s_0 E u s'') E₁ s' := by
  obtain ⟨a, B, sI, pins, σ, H, cls, d, rfl, I, nb, up, sky, na, os, ag, w, g⟩ := x
  obtain ⟨T, hT, upg⟩ := argH_up (cls := cls) (d := d) g
  have hfr : X.A.frames = some (X.env :: X.outer) := by rw [I.ok.frames, hs]
  have nx : ∀ b, b ∉ X.ex := fun b hb => by rw [hex] at hb; cases hb
  have apart : ∀ b o, X.s_0.heap.get? b = some o → b ∉ X.fs → b ∉ frs X.stack := fun b o e hb hm => by
    rcases List.mem_cons.mp (I.stkSub b hm) with z | z
    · have h1 := Heap.lt_size e
      have h2 := I.ok.above
      rw [z] at h1
      exact absurd (Nat.lt_of_lt_of_le h1 h2) (Nat.lt_irrefl _)
    · exact hb z
  have fin : ∀ h', FlyingZ B X.outer a (Za T cls d) h' → s'.heap.UpToSlots h' → CXa X.prog X.w X.outer X.H_0 X.s_0 E (.ref a) { s' with heap := h' } := fun h' fl up2 => by
    refine ⟨a, B, H, cls, d, rfl, fly_up fl fun o _ z => z.1, I.inGround nb, ⟨fun b o e n hb => nb b o (I.base.keep b o e n hb (nx b)) (apart b o e hb), fun b o e hb => ?_, fun b o e n => I.base.free b o e n (nx b), fun b o e hb => ?_, I.base.tups, I.base.frzs, I.base.tbls⟩,
      na, os.trans I.os, ag, w, argH_of fl.2.2.2 hT⟩
    · obtain ⟨_, o₀, e₀, hnf⟩ := I.ok.funs.mem hb
      rw [e] at e₀; cases e₀
      obtain ⟨_, e1⟩ := I.base.slot b o e (I.ok.frf b hb) hb (nx b)
      obtain ⟨_, e2⟩ := up b _ e1 hnf
      obtain ⟨sl, e3⟩ := up2 b _ e2 hnf
      exact ⟨sl, e3⟩
    · obtain ⟨o', e1⟩ := I.base.there b o e (nx b)
      exact ⟨o', nb b o' e1 (apart b o e hb)⟩
  have sk := sky_up sky upg
  rw [hs] at sk
  rcases sk with ⟨hB, hn, hl, oe, vs, he, hz, hd, h1⟩ | fl | hd
  · exact PXN.leaving_firstZ Za.steady hfr hl hf he hB hn hd h1 hz fin
  · exact PXN.leaves_onZ Za.steady hfr hf fl fin
  · exact leaves_heldZ hf hd fin
theorem takes_of (hs : X.stack = X.env :: X.outer) (hf : X.env.frame = some X.env.locals) (hex : X.ex = []) {E₁ : Value → Shared → Prop}
    (hx : X.xe = fun e s' => wpAny (model X.prog X.w) X.A (leaving X.env e) (fun _ s'' => CXa X.prog X.w X.outer X.H_0 X.s_0 E e s'') E₁ s') : Takes X (fun cls d _ H => E cls d H) := fun u s' x => by
  rw [hx]
  exact leave_a hs hf hex x
theorem passAt (tk : Takes X W) (σ : L2.St) : PassesAt (CXa X.prog X.w) X σ (WE W σ) := fun _ _ _ e s' I c => tk e s' (XE.of_call I (fun _ _ _ h => h) c)
theorem takes0 : Takes X (fun _ _ _ _ => False) := fun u s' ⟨_, _, _, _, _, _, _, _, _, _, _, _, _, _, _, _, no, _⟩ => no.elim
/-- raise C() -/
theorem ps_raiseBare {C : Addr} {bmB : List Value} {N newId initId : String} {x : Str} {p pos pos' : Pos} (hc : X.calm = true) (tk : Takes X W) (F : ExcBaseFacts N newId initId bmB) (q : PySem.W.excIn X.K C bmB newId = true) (gC : X.mg x = some (.ref C)) (kC : PySem.W.keepIn X.K (.ref C) = true) (r : Raises X (.ref C)) (hg : Gl X x)
    (hdb : (x == ("__debug__" : Str)) = false) : PS X (.Raise (some (.Call (.Name x p) [] [] pos)) none pos') (fun _ σ H => ∀ t, H t = none → W (.ref C) none σ (upd H t (.tup []))) := by
  refine ⟨fun pins s σ H D I h => ?_⟩
  show wpAny _ _ (do standAt pos'; raiseStmt X.env (some (do let v ← eval _ X.env; standAt pos'; pure v)) none) _ _ _
  refine wpAny_bind (wpAny_standAt (raise_made (I.ok.hd hc) (wpAny_bind ?_)))
  refine wpAny_Call_Name_kw (ld_glob I hg gC ?_ hdb)
  refine PySem.W.callWith_K0 I.kIn kC ?_
  obtain ⟨bm, N, nm, qn, bs, hdct, sn, sub, ab, col, dd, k0, k1, k2, k3, k5, mN, hC, hN, hni, T⟩ := exc_obj I.kIn q
  refine wpAny_call_exc_subT F T hC hN hni (fun h' e hm => wpAny_bind (wpAny_standAt (wpAny_pure ?_))) (Nat.zero_le _)
  obtain ⟨t, he, nt, ht⟩ := hm.there
  have ne : e ≠ t := fun z => by rw [z, ht] at he; cases he
  have nH : H t = none := I.hok.gone nt
  obtain ⟨G, g1, g2⟩ := restrict h' fun b => (s.heap.get? b).isSome || decide (b = t)
  have gs : ∀ b o, s.heap.get? b = some o → G.get? b = some o := fun b o z => by
    rw [g1 b (by rw [z]; rfl)]
    exact hm.keeps b o z
  have gt : G.get? t = some { cls := .type "tuple", data := .seq [].toArray } := by
    rw [g1 t (by simp)]
    exact ht
  have og : ∀ b o, G.get? b = some o → h'.get? b = some o := fun b o z => by
    cases y : ((s.heap.get? b).isSome || decide (b = t)) with
    | false => rw [g2 b y] at z; cases z
    | true => rw [g1 b y] at z; exact z
  have ge : G.get? e = none := g2 e (by rw [hm.new]; simpa using ne)
  have J : Inv X pins σ (upd H t (.tup [])) { s with heap := G } := by
    refine I.call (ch := []) ⟨fun b o z n _ _ => gs b o z, fun b o z n _ _ => ⟨o.slots, gs b o z⟩, fun b o z n _ => ?_, fun b o z _ => ⟨o, gs b o z⟩, fun b xs z => ?_, fun b o u z => ?_, fun b ps z => ⟨#[], ?_⟩⟩ (L2.HOk.laidN I.hok gs nH ?_) I.bare (fun _ z => nomatch z)
    · rw [upd_ne (fun y => by rw [y, nt] at z; cases z)]; exact n
    · rw [upd_ne (fun y => by rw [y, nH] at z; cases z)]; exact z
    · rw [upd_ne (fun y => by rw [y, nH] at z; cases z)]; exact z
    · rw [upd_ne (fun y => by rw [y, nH] at z; cases z), z, Array.append_empty]
    · exact ⟨Nat.zero_le _, [], .nil, ⟨_, gt, rfl, 0, rfl⟩⟩
  have nE : (upd H t (.tup [])) e = none := by rw [upd_ne ne]; exact I.hok.gone hm.new
  obtain ⟨r1, r2⟩ := r (model X.prog X.w) h' (I.kIn.keeps hm.keeps)
  refine ⟨e, _, _, .ref C, rfl, he, rfl, rfl, rfl, r1, r2, tk _ _ (XE.new J og ge he ⟨rfl, rfl⟩ rfl rfl nE rfl I.bare ⟨h t nH, e, t, _, _, rfl, upd_same, he, rfl, rfl⟩)⟩
end
/-- where nothing handles it, it goes on -/
theorem pass_a {X : Cx} {Wout : WX} {B : Heap} {a T : Addr} {sI s' : Shared} {h3 : Heap} {pins : List (Addr × Obj)} {σ : L2.St} {H : Hp} {cls : Value} {d : Option Addr} {Q : Flow → Shared → Prop} (hs : X.stack = X.env :: X.outer) (hf : X.env.frame = some X.env.locals) (tk : Takes X Wout)
    (J : Inv X pins σ H sI) (nb : ∀ b o, sI.heap.get? b = some o → b ∉ frs X.stack → B.get? b = some o) (up : sI.heap.UpToSlots h3) (fl : FlyingZ B (X.env :: X.outer) a (Za T cls d) h3) (na : H a = none) (os : s'.os = sI.os) (ag : AllBare s'.gens) (w : Wout cls d σ H) (hT : H T = some (.tup [])) :
    wpAny (model X.prog X.w) X.A (handleBy (.ref a) X.env []) Q X.xe { s' with heap := h3 } := by
  refine wpAny_handleBy_nil ?_
  obtain ⟨k1, k2, k3, oe, vs, N, oN, ts', he, hz, hd, h1, hr⟩ := id fl
  unfold PySem.passOn
  refine wpAny_bind (wpAny_field he hd h1 ?_)
  rw [if_neg (show ¬ ((Value.ref N == Value.none) = true) from by simp)]
  have fin : wpAny (model X.prog X.w) X.A (setFlight (.ref a) X.env.frame) (fun _ s4 => wpAny (model X.prog X.w) X.A (throw (.ref a) : Sem Flow) Q X.xe s4) X.xe { s' with heap := h3 } := by
    rw [hf]
    refine setFlight_upZ fl fun h4 hh4 up4 => wpAny_throw (tk _ _ ?_)
    refine ⟨a, B, sI, pins, σ, H, cls, d, rfl, J, nb, up.trans up4, ?_, na, os, ag, w, argH_of hh4.2.2.2 hT⟩
    rw [hs]
    exact .inr (.inr ⟨hh4.1, hh4.2.1, hh4.2.2.1, traced_up hh4.2.2.2 fun o _ z => z.1⟩)
  first
    | exact wpAny_bind (wpAny_pure (wpAny_bind fin))
    | exact wpAny_bind fin
section
variable {X : Cx} {x n : Str} {c : Value} {i : Nat} {body suite : List Stmt} {b₀ : Stmt} {np pos pos' : Pos} {tb : WX → TS} {ts : Addr → Value → Option Addr → TS} {Wout : WX}
/-- try: body; except x as n: suite, the error's arguments known to be none -/
theorem ps_try_a (hs : X.stack = X.env :: X.outer) (hf : X.env.frame = some X.env.locals) (hN : X.N.Nodup) (hi : X.N[i]? = some n) (hln : X.env.kindOf n = some .local) (hc : Names X x c) (tk : Takes X Wout)
    (hb : ∀ (W : WX) (pn : List (Addr × Obj)) (xe : Value → Shared → Prop), Takes (X.tr pn xe) W → PassesOwn (model X.prog X.w) X.A X.env xe → PSs (X.tr pn xe) body (tb W))
    (hsu : ∀ (a T : Addr) (oe : Obj) (cls : Value) (d : Option Addr) (H : Hp) (pn : List (Addr × Obj)), Za T cls d oe → H T = some (.tup []) → (∃ vs, oe.data = .fields vs) → PSs (X.suite a ((a, oe) :: pn)) (b₀ :: suite) (fun D σ H' => H' = H ∧ ts a cls d D σ H')) :
    PS X (.Try body [.ExceptHandler (some (.Name x np)) (some n) (b₀ :: suite) pos'] [] [] pos) (fun D σ H => tb (wAs X.K c i ts Wout D) D σ H) := by
  refine ⟨fun pins s σ H D I h => wpAny_Try_except ?_⟩
  have ok := I.ok
  have hfr : X.A.frames = some (X.env :: X.outer) := by rw [ok.frames, hs]
  refine wpAny_mono ((hb (wAs X.K c i ts Wout D) (X.pn ++ pins) (fun e s₁ => wpAny (model X.prog X.w) X.A (noteFrame e X.env) (fun _ s₂ => wpAny (model X.prog X.w) X.A (setFlight e none) (fun _ s₃ =>
    wpAny (model X.prog X.w) X.A (handleBy e X.env [.ExceptHandler (some (.Name x np)) (some n) (b₀ :: suite) pos']) (SP X pins D) X.xe s₃) X.xe s₂) X.xe s₁) (fun u s' xx => ?_) PassesOwn.looking).run [] s σ H D (I.toTry _) h) (fun f s1 hsp => ?_) (fun e s1 he => he)
  · obtain ⟨a, B, sI, pins', σ', H', cls, d, rfl, J', nb, up, sky, na, os, ag, ⟨b, hb1, hyes, hno⟩, g⟩ := xx
    have J : Inv X pins σ' H' sI := J'.ofTry ok
    obtain ⟨T, hT, upg⟩ := argH_up (cls := cls) (d := d) g
    have sk : Sky B (X.env :: X.outer) a (Za T cls d) X.env.locals s'.heap := by
      rw [← hs]
      exact sky_up sky upg
    show wpAny (model X.prog X.w) X.A (noteFrame (.ref a) X.env) _ _ _
    refine L2N.Sky.land Za.steady hfr hf sk fun h3 fl3 up3 => ?_
    have up' := up.trans up3
    have J3 : Inv X pins σ' H' { s' with heap := h3 } := J.landed nb fl3.1 up' os ag
    obtain ⟨oe3, vs3, he3, hz3, hd3⟩ := fl3.there
    have nfr : a ∉ frs (X.env :: X.outer) := fun hm => by
      obtain ⟨_, o', e', hnf⟩ := fl3.2.2.1.mem hm
      rw [he3] at e'; cases e'
      exact hnf _ hd3
    have nL : a ≠ X.env.locals := fun z => nfr (List.mem_filterMap.mpr ⟨X.env, List.mem_cons_self, by rw [hf, z]⟩)
    have nF : a ∉ X.fs := fun hm => by
      obtain ⟨e, he, q⟩ := List.mem_filterMap.mp hm
      exact nfr (List.mem_filterMap.mpr ⟨e, List.mem_cons_of_mem _ he, q⟩)
    have S3 := J3.suite he3 hd3 na nL nF
    refine wpAny_handleBy_cons (codeAny_handlers_test ?_) (by intro q; cases q)
    have LT : PySem.W.Looks (model X.prog X.w) h3 (typeOf (.ref a)) cls := fun A Q E s k q => wpAny_typeOf_ref (k _ _ he3) (by rw [hz3.1.1]; exact q)
    have LM := PySem.W.exm_one (M := model X.prog X.w) (J3.kIn) LT hb1
    have test : ∀ {Q E : Value → Shared → Prop}, Q c { s' with heap := h3 } → wpAny (model X.prog X.w) (X.A.mark (some (.ref a))) (eval (.Name x np) X.env) Q E { s' with heap := h3 } := fun {Q E} q => by
      obtain ⟨hg, hdbg, hm | ⟨hm, hv, hnn⟩⟩ := hc
      · exact ld_glob (X := X.suite a ((a, oe3) :: (X.pn ++ pins))) S3 hg hm q hdbg
      · exact ld_blt (X := X.suite a ((a, oe3) :: (X.pn ++ pins))) S3 hg hm hv q hnn hdbg
    refine test (LM.here ?_)
    cases b with
    | false => exact pass_a hs hf tk J nb up' fl3 na os ag (hno rfl) hT
    | true =>
      refine codeAny_handlers_suite_as (lands_againZ fl3 fun h4 fl4 up4 => ?_)
      have J4 : Inv X pins σ' H' { s' with heap := h4 } := J.landed nb fl4.1 (up'.trans up4) os ag
      obtain ⟨oe4, vs4, he4, hz4, hd4⟩ := fl4.there
      refine store_ok (X := X.suite a ((a, oe4) :: (X.pn ++ pins))) (v := .ref a) (J4.suite he4 hd4 na nL nF) hN hi (.inl hln) rfl (fun s5 S5 => ?_) (.inr hln)
      refine wpAny_mono ((hsu a T oe4 cls d H' (X.pn ++ pins) hz4 hT ⟨_, hd4⟩).run [] s5 _ H' _ S5 ⟨rfl, hyes rfl a na⟩) (fun f s6 hsp => ?_) (fun _ _ z => False.elim z)
      have end_ : ∀ {σ6 : L2.St} {H6 : Hp} {Q : Shared → Prop}, Inv (X.suite a ((a, oe4) :: (X.pn ++ pins))) [] σ6 H6 s6 → (∀ s7, Inv X pins (σ6.set i none) H6 s7 → Q s7) →
          wpAny (model X.prog X.w) X.A (do bindName X.env n .none; unbindBehindTheSuite X.env n pos') (fun _ s7 => Q s7) X.xe s6 := fun {σ6 H6 Q} S6 hq => gone_ok (S6.unsuite ok) hN hi hln hq
      match f, hsp with
      | .next, ⟨_, _, S6, q6⟩ => exact end_ S6 fun s7 J7 => ⟨_, _, J7, q6⟩
      | .brk, ⟨_, _, S6, q6⟩ => exact end_ S6 fun s7 J7 => ⟨_, _, J7, q6⟩
      | .cont, ⟨_, _, S6, q6⟩ => exact end_ S6 fun s7 J7 => ⟨_, _, J7, q6⟩
      | .ret u, ⟨_, _, _, S6, r6, q6⟩ => exact end_ S6 fun s7 J7 => ⟨_, _, _, J7, r6, q6⟩
  · match f, hsp with
    | .next, ⟨_, _, J', q⟩ => exact wpAny_execs_nil ⟨_, _, J'.ofTry ok, q⟩
    | .brk, ⟨_, _, J', q⟩ => exact ⟨_, _, J'.ofTry ok, q⟩
    | .cont, ⟨_, _, J', q⟩ => exact ⟨_, _, J'.ofTry ok, q⟩
    | .ret u, ⟨_, _, _, J', r, q⟩ => exact ⟨_, _, _, J'.ofTry ok, r, q⟩
end
end RF


/-! RFX1: tuple * int of any sign -/
namespace RF
open PySem PySem.Spec PyProof.Rows L2
theorem tuple_mul1 (l : Addr) (items : Array Value) (n : Nat) (dd : Option Addr) (sl : Array (Option Value)) (x : Int) (u : Tok) (c0 : (decide (x < -(2 ^ 63)) || decide (x ≥ 2 ^ 63)) = false) (c1 : (items.isEmpty || x == 1) = true) :
    Meets (Builtin.«tuple.__mul__» ⟨[.ref l, .int x u], []⟩) (fun _ R s => s.heap.get? l = some { cls := .type "tuple", dict := dd, data := .seq items n, slots := sl } ∧ R (.ok (.ret (Value.ref l))) s) :=
  .of_wp fun prog w A R s h => by
    obtain ⟨hp, g, d, tk, os⟩ := s
    obtain ⟨hl, h⟩ := h
    have f1 := AutoSeq1.idx_int
    wp_walk using wpAny_loadPart' hl
    repeat (first
      | (refine wpAny_ite_false (decide_eq_false (by rw [c0]; exact Bool.false_ne_true)) ?_; wp_walk using wpAny_loadPart' hl)
      | (refine wpAny_ite_true (decide_eq_true (by rw [c1])) ?_; wp_walk using wpAny_loadPart' hl)
      | (refine wpAny_ite_true (by decide) ?_; wp_walk using wpAny_loadPart' hl))
    all_goals exact ⟨_, rfl, h⟩
theorem tuple_mul0 (l : Addr) (items : Array Value) (n : Nat) (dd : Option Addr) (sl : Array (Option Value)) (x : Int) (u : Tok) (c0 : (decide (x < -(2 ^ 63)) || decide (x ≥ 2 ^ 63)) = false) (c1 : (items.isEmpty || x == 1) = false) (c2 : (decide (x ≤ 0) || items.isEmpty) = true) :
    Meets (Builtin.«tuple.__mul__» ⟨[.ref l, .int x u], []⟩) (fun _ R s => s.heap.get? l = some { cls := .type "tuple", dict := dd, data := .seq items n, slots := sl } ∧ R (.ok (.ret (Value.ref s.heap.objs.size))) { s with heap := s.heap.push { cls := Value.type "tuple", data := Data.seq #[] } }) :=
  .of_wp fun prog w A R s h => by
    obtain ⟨hp, g, d, tk, os⟩ := s
    obtain ⟨hl, h⟩ := h
    have f1 := AutoSeq1.idx_int
    wp_walk using wpAny_loadPart' hl
    repeat (first
      | (refine wpAny_ite_false (decide_eq_false (by rw [c0]; exact Bool.false_ne_true)) ?_; wp_walk using wpAny_loadPart' hl)
      | (refine wpAny_ite_false (decide_eq_false (by rw [c1]; exact Bool.false_ne_true)) ?_; wp_walk using wpAny_loadPart' hl)
      | (refine wpAny_ite_true (decide_eq_true (by rw [c2])) ?_; wp_walk using wpAny_loadPart' hl))
    all_goals exact ⟨_, rfl, h⟩
/-- t * k -/
def rRepG (K : PySem.W.Frag) : R2 := fun x y H Q => ∃ l k xs, x = .ref l ∧ y = .int k ∧ SqT K H l xs ∧ k ≤ 1000 ∧ -1000 ≤ k ∧ xs.length ≤ 1000 ∧
  ((xs = [] ∨ k = 1) → Q (.ref l) H) ∧ (¬ (xs = [] ∨ k = 1) → ∀ p, H p = none → Q (.ref p) (upd H p (.tup (List.replicate k.toNat xs).flatten)))
section
variable {X : Cx}
theorem op_repG : OpR X (binaryOp .Mult) (rRepG X.K) := by
  intro pins s σ H x y v u Q I rx ry h
  obtain ⟨l, k, xs, rfl, rfl, hT, h2, h1, hz, q1, q2⟩ := h
  by_cases hsame : xs = [] ∨ k = 1
  · have q := q1 hsame
    cases rx
    obtain ⟨t, rfl⟩ := ry
    obtain ⟨its, r, ⟨⟨cls, dd, data, sl⟩, ho, hc, n, hd⟩, hs⟩ := I.tuple hT
    simp only at hc hd
    subst hc hd
    have hle : its.length = xs.length := r.length.symm
    have c0 : (decide (k < -(2 ^ 63)) || decide (k ≥ 2 ^ 63)) = false := by
      rw [decide_eq_false (by omega), decide_eq_false (by omega)] <;> rfl
    have c1 : (its.toArray.isEmpty || k == 1) = true := by
      rcases hsame with e | e
      · subst e
        cases r
        rfl
      · rw [e]; simp
    exact wpAny_binaryOp_repeat_ref (T := "tuple") (U := "int") (by decide) ⟨_, ho, rfl⟩ (fun s' => typeIs_int s' k t) noFill_tuple_mul F.fills_int_mul F.slot_int_rmul repeat_tuple F.slot_int_index.lookup
      (call_meets F.slot_int_rmul (typeIs_int s k t) F.entry_int_rmul (F.args_int_rmul_2 _ _) (int_rmul_tuple k t l its.toArray n dd sl)
        ⟨ho, rfl, ⟨_, ho, rfl⟩, call_meets F.slot_tuple_mul ⟨_, ho, rfl⟩ F.entry_tuple_mul (F.args_tuple_mul_2 _ _) (tuple_mul1 l its.toArray n dd sl k t c0 c1) ⟨ho, ⟨.ref l, H, I, rfl, q⟩⟩⟩)
  · have q := q2 hsame
    rw [not_or] at hsame
    by_cases hk : k ≤ 0
    · cases rx
      obtain ⟨t, rfl⟩ := ry
      obtain ⟨its, r, ⟨⟨cls, dd, data, sl⟩, ho, hc, n, hd⟩, hs⟩ := I.tuple hT
      simp only at hc hd
      subst hc hd
      have hle : its.length = xs.length := r.length.symm
      have c0 : (decide (k < -(2 ^ 63)) || decide (k ≥ 2 ^ 63)) = false := by
        rw [decide_eq_false (by omega), decide_eq_false (by omega)] <;> rfl
      have hi : its.toArray.isEmpty = false := by
        cases its with
        | nil => exact absurd (List.eq_nil_of_length_eq_zero hle.symm) hsame.1
        | cons a b => rfl
      have c1 : (its.toArray.isEmpty || k == 1) = false := by
        rw [hi, Bool.false_or]
        exact beq_eq_false_iff_ne.mpr hsame.2
      have c2 : (decide (k ≤ 0) || its.toArray.isEmpty) = true := by
        rw [decide_eq_true hk]; rfl
      have e0 : k.toNat = 0 := by omega
      rw [e0] at q
      refine wpAny_binaryOp_repeat_ref (T := "tuple") (U := "int") (by decide) ⟨_, ho, rfl⟩ (fun s' => typeIs_int s' k t) noFill_tuple_mul F.fills_int_mul F.slot_int_rmul repeat_tuple F.slot_int_index.lookup
        (call_meets F.slot_int_rmul (typeIs_int s k t) F.entry_int_rmul (F.args_int_rmul_2 _ _) (int_rmul_tuple k t l its.toArray n dd sl)
          ⟨ho, rfl, ⟨_, ho, rfl⟩, call_meets F.slot_tuple_mul ⟨_, ho, rfl⟩ F.entry_tuple_mul (F.args_tuple_mul_2 _ _) (tuple_mul0 l its.toArray n dd sl k t c0 c1 c2) ⟨ho, ?_⟩⟩)
      refine ⟨.ref s.heap.objs.size, _, I.laid (t' := s.toks) (o := .tup []) (fun b ob q => Heap.get?_push_of_some _ q) (Nat.le_refl _) ?_, rfl, q _ (I.hok.fresh (Nat.le_refl _))⟩
      exact ⟨Nat.zero_le _, _, .nil, IsTup.new _ _⟩
    · exact op_repT pins s σ H _ _ v u Q I rx ry ⟨l, k, xs, rfl, rfl, hT, hsame.1, by omega, h2, hz, q⟩
end
end RF


/-! RFX2: errors told by their classes -/
namespace RF
open PySem PySem.Spec PyProof.Rows L2
section
variable {X : Cx}
/-- l.count(x) of plain data -/
def rCntD (K : PySem.W.Frag) : V → List V → Hp → VK → Prop := fun x xs H Q => ∃ (a : Addr) (y : V) (d : PyData) (ds : List PyData), x = V.ref a ∧ xs = [y] ∧ Dp K H (V.ref a) (.list ds) ∧ Dp K H y d ∧
  SeqAt.shaped (.list ds) = true ∧ SeqAt.shaped d = true ∧ Q (.int ((ds.countP fun z => PyData.eqv z d : Nat) : Int)) H
theorem mt_cntD (hu : X.A.units + 65 < cLine) : MtR X "list.count" (rCntD X.K) := by
  intro pins s σ H x xs v us Q I rx rxs h
  obtain ⟨a, y, d, ds, rfl, rfl, hl, hy, sl, sd, q⟩ := h
  cases rx
  cases rxs with
  | cons ry rt =>
    rename_i uy ut
    cases rt
    obtain ⟨bs, r1⟩ := Dp.reads I d y uy hy ry
    have lay : PyData.canLayAll0 ds = true := SeqAt.canLay_of_shaped sl
    have rm : X.A.units + 1 + min (PyData.depthAll ds) d.depth < cLine := room_in_shaped sd hu
    cases hl with
    | lst hs ha =>
      obtain ⟨its, rv, ⟨⟨cls, dd, data, sls⟩, n, ho, hc, hdn, hdt⟩, hlen⟩ := I.list hs
      simp only at hc hdt
      subst hc hdt
      obtain ⟨as, h4⟩ := Dp.readsAll I ds _ its ha rv
      have em : its.map (SeqAt.readOf s.heap) = ds := SeqAt.readsAll_map ds its as lay h4
      refine call_meets PySem.F.slot_list_count ⟨_, ho, rfl⟩ PySem.F.entry_list_count (PySem.F.args_list_count_2 _ _)
        (SeqAt.list_countAt a its.toArray n dd sls uy (fun u => PyData.eqv (SeqAt.readOf s.heap u) d)) ⟨ho, SeqAt.items_eqAt (vs := its.toArray) (show ReadsAll s.heap its.toArray.toList ds as from h4) r1 lay (SeqAt.canLay_of_shaped sd) rm, ?_⟩
      have ec : its.countP (fun u => PyData.eqv (SeqAt.readOf s.heap u) d) = ds.countP fun z => PyData.eqv z d := by
        rw [← em, List.countP_map]; rfl
      refine ⟨.int _, H, I.tok _, ⟨s.toks, ?_⟩, q⟩
      show Value.int ((its.toArray.toList.countP _ : Nat) : Int) s.toks = _
      rw [show its.toArray.toList = its from rfl, ec]
/-- x in a tuple of plain data -/
def rInTD (K : PySem.W.Frag) : R2 := fun x y H Q => ∃ d ds, Dp K H x d ∧ Dp K H y (.tuple ds) ∧ SeqAt.shaped d = true ∧ SeqAt.shaped (.tuple ds) = true ∧ Q (.bl (ds.any fun z => PyData.eqv z d)) H
def rNotInTD (K : PySem.W.Frag) : R2 := fun x y H Q => ∃ d ds, Dp K H x d ∧ Dp K H y (.tuple ds) ∧ SeqAt.shaped d = true ∧ SeqAt.shaped (.tuple ds) = true ∧ Q (.bl (!ds.any fun z => PyData.eqv z d)) H
theorem op_inTD (hu : X.A.units + 65 < cLine) : OpR X (compareOp .In) (rInTD X.K) := by
  intro pins s σ H x y v u Q I rx ry ⟨d, ds, hd, he, sd, se, q⟩
  obtain ⟨as, r1⟩ := Dp.reads I d x v hd rx
  obtain ⟨bs, r2⟩ := Dp.reads I (.tuple ds) y u he ry
  exact SeqAt.in_tuple_reads r2 r1 (SeqAt.canLay_of_shaped se) (SeqAt.canLay_of_shaped sd) (room_in_shaped sd hu) ⟨.bl _, H, I, rfl, q⟩
theorem op_notInTD (hu : X.A.units + 65 < cLine) : OpR X (compareOp .NotIn) (rNotInTD X.K) := by
  intro pins s σ H x y v u Q I rx ry ⟨d, ds, hd, he, sd, se, q⟩
  obtain ⟨as, r1⟩ := Dp.reads I d x v hd rx
  obtain ⟨bs, r2⟩ := Dp.reads I (.tuple ds) y u he ry
  exact SeqAt.notIn_tuple_reads r2 r1 (SeqAt.canLay_of_shaped se) (SeqAt.canLay_of_shaped sd) (room_in_shaped sd hu) ⟨.bl _, H, I, rfl, q⟩
/-- isinstance(e, C) of an error that is pinned -/
theorem call_isP {a D : Addr} {oe : Obj} (hp : (a, oe) ∈ X.pn) (C : ExcC X.K D) (hz : Zc (.ref D) none oe) (hf : ∃ vs, oe.data = .fields vs) : CallR X (.builtin "isinstance") (rIsE X.K D a) := by
  intro pins s σ H xs us Q I r ⟨c, cv, b, e0, hcv, e, q⟩
  subst e0
  cases r with
  | cons rx rr =>
    cases rr with
    | cons rt rr =>
      cases rr
      cases rx
      have ec := hcv _ rt
      subst ec
      have hget := (I.pin (a, oe) (List.mem_append_left _ hp)).1
      obtain ⟨vs, hv⟩ := hf
      obtain ⟨oc, od, oda, osl⟩ := oe
      obtain ⟨z1, z2⟩ := hz
      dsimp only at z1 z2 hv
      subst z1 z2 hv
      have J : PySem.W.InstAt s.heap a ⟨.ref D, none, .fields vs, osl⟩ D none := ⟨hget, rfl, rfl, trivial⟩
      exact PySem.W.kia_one (PySem.W.handS_kitx_exc C.hg C.hk C.hs C.hd C.ha C.hn C.ht C.hm) I.kIn J e (fun z => nomatch z) fun tk => ⟨.bl b, H, I.kept (t' := tk) fun _ _ z => z, rfl, q⟩
end
end RF


namespace RF
open PySem PySem.Spec PyProof.Rows L2

theorem flat_nil {α : Type} : ∀ n : Nat, (List.replicate n ([] : List α)).flatten = []
  | 0 => rfl
  | n + 1 => by rw [List.replicate_succ, List.flatten_cons, flat_nil n]; rfl
theorem reps_rep {K : PySem.W.Frag} {ok : Addr → Prop} {H : Hp} {vs : List V} {ds : List D} (r : Reps K ok H vs ds) : ∀ n : Nat, Reps K ok H (List.replicate n vs).flatten (List.replicate n ds).flatten
  | 0 => .nil
  | n + 1 => by
    rw [List.replicate_succ, List.flatten_cons, List.replicate_succ, List.flatten_cons]
    exact r.append (reps_rep r n)
section
variable {X : Cx}
/-- list + list, shared ones too -/
theorem op_catL : OpR X (binaryOp .Add) (fun x y H Q => ∃ l b xs zs, x = .ref l ∧ y = .ref b ∧ SqL X.K H l xs ∧ SqL X.K H b zs ∧ xs.length + zs.length ≤ sizeLine ∧ ∀ p, H p = none → Q (.ref p) (upd H p (.lst (xs ++ zs)))) := by
  intro pins s σ H x y v u Q I rx ry h
  obtain ⟨l, b, xs, zs, rfl, rfl, hH, hB, hz, q⟩ := h
  cases rx
  cases ry
  obtain ⟨its, r, ⟨⟨c1, d1, t1, sl1⟩, n, e, hc, hdn, hd⟩, hl⟩ := I.list hH
  obtain ⟨its2, r2, ⟨⟨c2, d2, t2, sl2⟩, n2, e2, hc2, hdn2, hd2⟩, hl2⟩ := I.list hB
  simp only at hc hdn hd hc2 hdn2 hd2
  subst hc hdn hd hc2 hdn2 hd2
  have k1 := r.length
  have k2 := r2.length
  refine concat_meets ⟨_, e, rfl⟩ ⟨_, e2, rfl⟩ noFill_list_add seq_list_add PySem.F.slot_list_add PySem.F.entry_list_add (PySem.F.args_list_add_2 _ _) (list_addW l b its.toArray its2.toArray n n2 none none sl1 sl2 (by rw [List.size_toArray, List.size_toArray]; omega)) ⟨e, e2, ?_⟩
  have ea : its.toArray ++ its2.toArray = (its ++ its2).toArray := by simp
  rw [ea]
  exact ⟨.ref _, _, I.lnew (t' := s.toks) (r.append r2) (by rw [List.length_append]; omega), rfl, q _ I.fresh⟩
theorem bop_ok (op : Operator) : OpR X (binaryOp op) (rP2 X.K (pBop op)) := by
  intro pins s σ H x y v u Q I rx ry h
  obtain ⟨da, db, sl, ok, hp, hn, ax, ay, k⟩ := h
  cases op <;> cases da <;> cases db <;> first | exact nomatch (show (none : Option Sl) = some _ from hp) | skip
  case Add.int.int i j =>
    cases hp; cases ax.int; cases ay.int
    exact op_add pins s σ H _ _ v u Q I rx ry ⟨i, j, rfl, rfl, k _ _ (ppost_sh (.int _))⟩
  case Add.str.str a b =>
    simp only [pBop] at hp
    split at hp
    · rename_i hz
      cases hp; cases ax.str; cases ay.str
      exact op_add_str pins s σ H _ _ v u Q I rx ry ⟨a, b, rfl, rfl, hz, k _ _ (ppost_sh (.str _))⟩
    · cases hp
  case Add.tup.tup a b =>
    simp only [pBop] at hp
    split at hp
    · rename_i hz
      cases hp
      have tx := ax.tupR
      have ty := ay.tupR
      cases tx with
      | tup h1 r1 =>
        cases ty with
        | tup h2 r2 =>
          refine op_catA pins s σ H _ _ v u Q I rx ry ⟨_, _, _, _, rfl, rfl, h1.sq, h2.sq, by rw [r1.length, r2.length]; exact hz, fun e => ?_, fun e1 e2 => ?_, fun e1 e2 p np => ?_⟩
          · subst e
            cases r1
            exact k _ _ (ppost_sh (.tup h2 r2))
          · subst e2
            cases r2
            rw [List.append_nil] at k
            exact k _ _ (ppost_sh (.tup h1 r1))
          · exact k _ _ (ppost_tup hn np (r1.append r2))
    · cases hp
  case Add.lst.lst a b =>
    simp only [pBop] at hp
    split at hp
    · rename_i hz
      cases hp
      obtain ⟨l1, xs, rfl, s1, r1⟩ := ax.lst
      obtain ⟨l2, ys, rfl, s2, r2⟩ := ay.lst
      exact op_catL pins s σ H _ _ v u Q I rx ry ⟨_, _, _, _, rfl, rfl, s1, s2, by rw [r1.length, r2.length]; exact hz, fun p np => k _ _ (ppost_lst np (r1.append r2))⟩
    · cases hp
  case Sub.int.int i j =>
    cases hp; cases ax.int; cases ay.int
    exact op_sub pins s σ H _ _ v u Q I rx ry ⟨i, j, rfl, rfl, k _ _ (ppost_sh (.int _))⟩
  case Mult.int.int i j =>
    simp only [pBop] at hp
    split at hp
    · rename_i hz
      cases hp; cases ax.int; cases ay.int
      exact op_mulW pins s σ H _ _ v u Q I rx ry ⟨i, j, rfl, rfl, hz, k _ _ (ppost_sh (.int _))⟩
    · cases hp
  case Mult.tup.int a j =>
    simp only [pBop] at hp
    split at hp
    · rename_i hz
      cases hp; cases ay.int
      have tx := ax.tupR
      cases tx with
      | tup h1 r1 =>
        refine op_repG pins s σ H _ _ v u Q I rx ry ⟨_, j, _, rfl, rfl, h1.sq, hz.1, hz.2.1, by rw [r1.length]; exact hz.2.2, fun e => ?_, fun e p np => ?_⟩
        · rcases e with e | e
          · subst e
            cases r1
            rw [flat_nil] at k
            exact k _ _ (ppost_sh (.tup h1 .nil))
          · subst e
            rw [show (List.replicate (1 : Int).toNat a).flatten = a by simp] at k
            exact k _ _ (ppost_sh (.tup h1 r1))
        · exact k _ _ (ppost_tup hn np (reps_rep r1 _))
    · cases hp
  case FloorDiv.int.int i j =>
    simp only [pBop] at hp
    split at hp
    · rename_i hz
      cases hp; cases ax.int; cases ay.int
      exact op_fdivW pins s σ H _ _ v u Q I rx ry ⟨i, j, rfl, rfl, hz, k _ _ (ppost_sh (.int _))⟩
    · cases hp
  case Mod.int.int i j =>
    simp only [pBop] at hp
    split at hp
    · rename_i hz
      cases hp; cases ax.int; cases ay.int
      exact op_mod pins s σ H _ _ v u Q I rx ry ⟨i, j, rfl, rfl, hz, k _ _ (ppost_sh (.int _))⟩
    · cases hp
  case Pow.int.int i j =>
    simp only [pBop] at hp
    split at hp
    · rename_i hz
      cases hp; cases ax.int; cases ay.int
      exact op_pow pins s σ H _ _ v u Q I rx ry ⟨i, j, rfl, rfl, hz, k _ _ (ppost_sh (.int _))⟩
    · cases hp
theorem uop_ok (op : UnaryOp) : UnR X (unaryOp op) (rP1 X.K (pUop op)) := by
  intro pins s σ H x v Q I rx h
  obtain ⟨da, sl, ok, hp, hn, ax, k⟩ := h
  cases op <;> cases da <;> first | exact nomatch (show (none : Option Sl) = some _ from hp) | skip
  case USub.int i =>
    cases hp; cases ax.int
    exact un_neg pins s σ H _ v Q I rx ⟨i, rfl, k _ _ (ppost_sh (.int _))⟩
end

/-! ### comparisons -/
theorem rep_flat {K : PySem.W.Frag} {ok : Addr → Prop} {H : Hp} {v : V} {d : D} (r : Rep K ok H v d) (f : d.flat = true) : flatV v = true := by
  cases r <;> first | rfl | (simp [D.flat] at f; done)
theorem reps_flat {K : PySem.W.Frag} {ok : Addr → Prop} {H : Hp} : ∀ {vs : List V} {ds : List D}, Reps K ok H vs ds → ds.all D.flat = true → vs.all flatV = true
  | _, _, .nil, _ => rfl
  | _, _, .cons r s, f => by
    rw [List.all_cons, Bool.and_eq_true] at f
    rw [List.all_cons, rep_flat r f.1, reps_flat s f.2]; rfl
theorem eqv_flat {K : PySem.W.Frag} {ok ok' : Addr → Prop} {H : Hp} {v u : V} {d e : D} (r : Rep K ok H v d) (q : Rep K ok' H u e) (f : d.flat = true) (g : e.flat = true) : eqV v u = D.eqv d e := by
  cases r <;> first | (simp [D.flat] at f; done) | (cases q <;> first | (simp [D.flat] at g; done) | rfl | (simp [eqV, D.eqv]; done))
theorem in_flat {K : PySem.W.Frag} {ok ok' : Addr → Prop} {H : Hp} {u : V} {e : D} (q : Rep K ok' H u e) (g : e.flat = true) : ∀ {vs : List V} {ds : List D}, Reps K ok H vs ds → ds.all D.flat = true → inV u vs = ds.any fun y => D.eqv y e
  | _, _, .nil, _ => rfl
  | _, _, .cons r s, f => by
    rw [List.all_cons, Bool.and_eq_true] at f
    have ih := in_flat q g s f.2
    unfold inV at ih ⊢
    rw [List.any_cons, List.any_cons, eqv_flat r q f.1 g, ih]
theorem Arg.flatRep {K : PySem.W.Frag} {ok : Addr → Prop} {H : Hp} {v : V} {d : D} (h : Arg K ok H v d) (f : d.flat = true) : Rep K ok H v d := by
  rcases h with h | ⟨a, _, h⟩
  · exact h
  · cases d <;> first | (simp [D.flat] at f; done) | exact h.elim
def pCopS (op : CmpOp) (a b : D) : Option Sl := (pCop op a b).map fun k => .sh (.bl k)
theorem pls_lst {xs : List D} (h : (D.lst xs).pl deepest = true) : D.pls 39 xs = true := h
theorem pls_tup {xs : List D} (h : (D.tup xs).pl deepest = true) : D.pls 39 xs = true := h
theorem any_py {x : D} {m : Nat} (hx : x.pl m = true) : ∀ (es : List D) (n : Nat), D.pls n es = true → (D.pys es).any (fun z => PyData.eqv z x.py) = es.any fun y => D.eqv y x
  | [], _, _ => rfl
  | e :: es, n, h => by
    have h' : (D.pl n e && D.pls n es) = true := by cases n <;> exact h
    rw [Bool.and_eq_true] at h'
    rw [D.pys, List.any_cons, List.any_cons, any_py hx es n h'.2, eqv_py _ _ _ _ h'.1 hx]
section
variable {X : Cx}
theorem pin_seq {K : PySem.W.Frag} {ok : Addr → Prop} {H : Hp} {x y : V} {da db : D} {b : Bool} (hp : pIn da db = some b) (ax : Arg K ok H x da) (ay : Arg K ok H y db) :
    (∃ p xs, y = .ref p ∧ (SqL K H p xs ∨ SqT K H p xs) ∧ flatV x = true ∧ xs.all flatV = true ∧ b = inV x xs) ∨
      ∃ d ds, Dp K H x d ∧ SeqAt.shaped d = true ∧ b = (ds.any fun z => PyData.eqv z d) ∧ ((Dp K H y (.list ds) ∧ SeqAt.shaped (.list ds) = true) ∨ (Dp K H y (.tuple ds) ∧ SeqAt.shaped (.tuple ds) = true)) := by
  unfold pIn at hp
  cases hs : seqOf db with
  | none => rw [hs] at hp; cases hp
  | some ds =>
    rw [hs] at hp
    simp only at hp
    split at hp
    · rename_i hf
      left
      rw [Bool.and_eq_true] at hf
      cases hp
      have rx := ax.flatRep hf.1
      cases db with
      | lst es =>
        cases hs
        obtain ⟨a, xs, rfl, h1, h2⟩ := ay.lst
        exact ⟨a, xs, rfl, .inl h1, rep_flat rx hf.1, reps_flat h2 hf.2, (in_flat rx hf.1 h2 hf.2).symm⟩
      | tup es =>
        cases hs
        obtain ⟨a, xs, rfl, h1, h2⟩ := ay.tup
        exact ⟨a, xs, rfl, .inr h1, rep_flat rx hf.1, reps_flat h2 hf.2, (in_flat rx hf.1 h2 hf.2).symm⟩
      | _ => cases hs
    · split at hp
      · rename_i hf
        right
        rw [Bool.and_eq_true] at hf
        cases hp
        cases db with
        | lst es =>
          cases hs
          refine ⟨da.py, D.pys ds, ax.dp hf.1, shaped_py hf.1, (any_py hf.1 ds _ (pls_lst hf.2)).symm, .inl ⟨ay.dp hf.2, shaped_py hf.2⟩⟩
        | tup es =>
          cases hs
          refine ⟨da.py, D.pys ds, ax.dp hf.1, shaped_py hf.1, (any_py hf.1 ds _ (pls_tup hf.2)).symm, .inr ⟨ay.dp hf.2, shaped_py hf.2⟩⟩
        | _ => cases hs
      · cases hp
theorem arg_isNon {K : PySem.W.Frag} {ok : Addr → Prop} {H : Hp} {x : V} {d : D} (ax : Arg K ok H x d) : d.isNon = decide (x = .non) := by
  rcases ax with ax | ⟨a, rfl, ax⟩
  · cases ax <;> rfl
  · cases d <;> first | rfl | exact ax.elim
theorem cop_ok (hu : X.A.units + 65 < cLine) (op : CmpOp) : OpR X (compareOp op) (rP2 X.K (pCopS op)) := by
  intro pins s σ H x y v u Q I rx ry h
  obtain ⟨da, db, sl, ok, hp, hn, ax, ay, k⟩ := h
  unfold pCopS at hp
  cases hc : pCop op da db with
  | none => rw [hc] at hp; cases hp
  | some b =>
    rw [hc] at hp
    cases hp
    have fin : Q (.bl b) H := k _ _ (ppost_sh (.bl _))
    cases op with
    | Eq =>
      have hc' : (if (da.pl deepest && db.pl deepest) = true then some (D.eqv da db) else none) = some b := by
        cases da <;> cases db <;> exact hc
      split at hc'
      · rename_i hpl
        rw [Bool.and_eq_true] at hpl
        cases hc'
        refine op_eqD (Nat.lt_of_succ_lt hu) pins s σ H x y v u Q I rx ry ⟨da.py, db.py, ax.dp hpl.1, ay.dp hpl.2, shaped_py hpl.1, shaped_py hpl.2, ?_⟩
        rw [eqv_py _ _ _ _ hpl.1 hpl.2]; exact fin
      · cases hc'
    | NotEq =>
      have hc' : (if (da.pl deepest && db.pl deepest) = true then some (!D.eqv da db) else none) = some b := by
        cases da <;> cases db <;> exact hc
      split at hc'
      · rename_i hpl
        rw [Bool.and_eq_true] at hpl
        cases hc'
        refine op_neD (Nat.lt_of_succ_lt hu) pins s σ H x y v u Q I rx ry ⟨da.py, db.py, ax.dp hpl.1, ay.dp hpl.2, shaped_py hpl.1, shaped_py hpl.2, ?_⟩
        rw [eqv_py _ _ _ _ hpl.1 hpl.2]; exact fin
      · cases hc'
    | Lt =>
      cases da <;> cases db <;> first | exact nomatch (show (none : Option Bool) = some _ from hc) | skip
      cases hc; cases ax.int; cases ay.int
      exact op_lt pins s σ H _ _ v u Q I rx ry ⟨_, _, rfl, rfl, fin⟩
    | LtE =>
      cases da <;> cases db <;> first | exact nomatch (show (none : Option Bool) = some _ from hc) | skip
      cases hc; cases ax.int; cases ay.int
      exact op_le pins s σ H _ _ v u Q I rx ry ⟨_, _, rfl, rfl, fin⟩
    | Gt =>
      cases da <;> cases db <;> first | exact nomatch (show (none : Option Bool) = some _ from hc) | skip
      cases hc; cases ax.int; cases ay.int
      exact op_gt pins s σ H _ _ v u Q I rx ry ⟨_, _, rfl, rfl, fin⟩
    | GtE =>
      cases da <;> cases db <;> first | exact nomatch (show (none : Option Bool) = some _ from hc) | skip
      cases hc; cases ax.int; cases ay.int
      exact op_ge pins s σ H _ _ v u Q I rx ry ⟨_, _, rfl, rfl, fin⟩
    | Is =>
      have hc' : (if db.isNon = true then some da.isNon else isBB da db) = some b := by cases da <;> cases db <;> exact hc
      split at hc'
      · rename_i hb
        cases hc'
        cases db <;> first | exact nomatch (show false = true from hb) | skip
        exact op_isN pins s σ H _ _ v u Q I rx ry ⟨ay.non, by rw [← arg_isNon ax]; exact fin⟩
      · cases da <;> cases db <;> first | exact nomatch (show (none : Option Bool) = some _ from hc') | skip
        cases hc'
        cases ax.bl; cases ay.bl
        exact op_isBl pins s σ H _ _ v u Q I rx ry ⟨_, _, rfl, rfl, fin⟩
    | IsNot =>
      have hc' : (if db.isNon = true then some (!da.isNon) else (isBB da db).map (!·)) = some b := by cases da <;> cases db <;> exact hc
      split at hc'
      · rename_i hb
        cases hc'
        cases db <;> first | exact nomatch (show false = true from hb) | skip
        exact op_notN pins s σ H _ _ v u Q I rx ry ⟨ay.non, by rw [← arg_isNon ax]; exact fin⟩
      · cases da <;> cases db <;> first | exact nomatch (show (none : Option Bool) = some _ from hc') | skip
        cases hc'
        cases ax.bl; cases ay.bl
        exact op_notBl pins s σ H _ _ v u Q I rx ry ⟨_, _, rfl, rfl, fin⟩
    | In =>
      have hc' : pIn da db = some b := by cases da <;> cases db <;> exact hc
      rcases pin_seq hc' ax ay with ⟨p, xs, rfl, h1, h2, h3, rfl⟩ | ⟨d, ds, h1, h2, rfl, h3⟩
      · exact op_in_seq pins s σ H _ _ v u Q I rx ry ⟨p, xs, rfl, h1, h2, h3, fin⟩
      · rcases h3 with ⟨h3, h4⟩ | ⟨h3, h4⟩
        · exact op_inD hu pins s σ H _ _ v u Q I rx ry ⟨d, ds, h1, h3, h2, h4, fin⟩
        · exact op_inTD hu pins s σ H _ _ v u Q I rx ry ⟨d, ds, h1, h3, h2, h4, fin⟩
    | NotIn =>
      have hc' : (pIn da db).map (!·) = some b := by cases da <;> cases db <;> exact hc
      cases hi : pIn da db with
      | none => rw [hi] at hc'; cases hc'
      | some b' =>
        rw [hi] at hc'
        cases hc'
        rcases pin_seq hi ax ay with ⟨p, xs, rfl, h1, h2, h3, rfl⟩ | ⟨d, ds, h1, h2, rfl, h3⟩
        · exact op_notIn_seq pins s σ H _ _ v u Q I rx ry ⟨p, xs, rfl, h1, h2, h3, fin⟩
        · rcases h3 with ⟨h3, h4⟩ | ⟨h3, h4⟩
          · exact op_notInD hu pins s σ H _ _ v u Q I rx ry ⟨d, ds, h1, h3, h2, h4, fin⟩
          · exact op_notInTD hu pins s σ H _ _ v u Q I rx ry ⟨d, ds, h1, h3, h2, h4, fin⟩

/-! ### subscripts -/
theorem atI_reps {K : PySem.W.Frag} {ok : Addr → Prop} {H : Hp} {vs : List V} {ds : List D} {i : Int} {d : D} (r : Reps K ok H vs ds) (h : atI ds i = some d) : ∃ v, atI vs i = some v ∧ Rep K ok H v d := by
  unfold atI at h ⊢
  rw [r.length]
  cases hi : ixN ds.length i with
  | none => rw [hi] at h; cases h
  | some j =>
    rw [hi] at h
    exact r.get h
theorem ix_ok : IxR X (rP2 X.K pIx) := by
  intro value slice pins s σ H x y v u Q I rx ry h hs
  obtain ⟨da, db, sl, ok, hp, hn, ax, ay, k⟩ := h
  cases da <;> cases db <;> first | exact nomatch (show (none : Option Sl) = some _ from hp) | skip
  case tup.int ds i =>
    simp only [pIx] at hp
    cases hd : atI ds i with
    | none => rw [hd] at hp; cases hp
    | some d =>
      rw [hd] at hp; cases hp; cases ay.int
      obtain ⟨a, xs, rfl, h1, h2⟩ := ax.tup
      obtain ⟨z, e, r⟩ := atI_reps h2 hd
      exact ix_tup value slice pins s σ H _ _ v u Q I rx ry ⟨a, xs, i, z, rfl, rfl, h1, e, k _ _ (ppost_sh r)⟩ hs
  case lst.int ds i =>
    simp only [pIx] at hp
    cases hd : atI ds i with
    | none => rw [hd] at hp; cases hp
    | some d =>
      rw [hd] at hp; cases hp; cases ay.int
      obtain ⟨a, xs, rfl, h1, h2⟩ := ax.lst
      obtain ⟨z, e, r⟩ := atI_reps h2 hd
      exact ix_list value slice pins s σ H _ _ v u Q I rx ry ⟨a, xs, i, z, rfl, rfl, h1, e, k _ _ (ppost_sh r)⟩ hs
def rSlP (K : PySem.W.Frag) : V → Option Int → Option Int → Hp → VK → Prop := fun x lo hi H Q => ∃ da s ok, pSl da lo hi = some s ∧ New ok H ∧ Arg K ok H x da ∧ ∀ v H', PPost K ok H H' v s → Q v H'
theorem cutL_whole {α : Type} (xs : List α) (lo hi : Option Int) (h : HT.sIx xs.length 0 lo = 0 ∧ HT.sIx xs.length xs.length hi = xs.length) : cutL xs lo hi = xs := by
  unfold cutL
  rw [h.1, h.2]
  simp
theorem sl_ok : SlR X (rSlP X.K) := by
  intro pins s σ H x v vl vu lo hi sl Q I rx hsl pl pu h
  obtain ⟨da, r, ok, hp, hn, ax, k⟩ := h
  cases da <;> first | exact nomatch (show (none : Option Sl) = some _ from hp) | skip
  case tup ds =>
    cases hp
    have tx := ax.tupR
    cases tx with
    | tup h1 r1 =>
      refine sl_tupA pins s σ H _ v vl vu lo hi sl Q I rx hsl pl pu ⟨_, _, rfl, h1.sq, fun e => ?_, fun e p np => ?_⟩
      · rw [r1.length] at e
        rw [cutL_whole ds lo hi e] at k
        exact k _ _ (ppost_sh (.tup h1 r1))
      · exact k _ _ (ppost_tup hn np (r1.cut lo hi))
  case lst ds =>
    cases hp
    obtain ⟨a, xs, rfl, h1, h2⟩ := ax.lst
    exact sl_list pins s σ H _ v vl vu lo hi sl Q I rx hsl pl pu ⟨a, xs, rfl, h1, fun p np => k _ _ (ppost_lst np (h2.cut lo hi))⟩
end
end RF


namespace RF
open PySem PySem.Spec PyProof.Rows L2

def B.val : B → Value
  | .len => .builtin "len" | .abs => .builtin "abs" | .int_ => .type "int" | .isinstance => .builtin "isinstance" | .max_ => .builtin "max" | .min_ => .builtin "min"
  | .list_ => .type "list" | .tuple_ => .type "tuple" | .sum_ => .builtin "sum" | .sorted_ => .builtin "sorted" | .repr_ => .builtin "repr"
theorem B.boot (b : B) : bootBuiltins b.name = some b.val := by cases b <;> decide +kernel
theorem B.name_ok (b : B) : b.name ≠ "__name__" ∧ (b.name == ("__debug__" : Str)) = false := by cases b <;> decide +kernel
section
variable {K : PySem.W.Frag} {ok : Addr → Prop} {H : Hp}
theorem Args.nil' {vs : List V} (h : Args K ok H vs []) : vs = [] := by cases h; rfl
theorem Args.one {vs : List V} {d : D} (h : Args K ok H vs [d]) : ∃ v, vs = [v] ∧ Arg K ok H v d := by
  cases h with
  | cons r s => cases s; exact ⟨_, rfl, r⟩
theorem Args.two {vs : List V} {d e : D} (h : Args K ok H vs [d, e]) : ∃ v u, vs = [v, u] ∧ Arg K ok H v d ∧ Arg K ok H u e := by
  cases h with
  | cons r s => obtain ⟨u, rfl, q⟩ := s.one; exact ⟨_, _, rfl, r, q⟩
theorem seqL_ty {a : Addr} {xs : List V} (h : SqL K H a xs) : TyX K H (.ref a) (.type "list") := by
  rcases h with (h | ⟨o, h⟩) | ⟨o, its, n, h, hc, _⟩
  · exact .base (.lst h)
  · exact .base (.frz h)
  · exact .kList h hc
theorem seqT_ty {a : Addr} {xs : List V} (h : SqT K H a xs) : TyX K H (.ref a) (.type "tuple") := by
  rcases h with (h | ⟨o, h⟩) | ⟨o, its, n, h, hc, _⟩
  · exact .base (.tup h)
  · exact .fTuple h
  · exact .kTuple h hc
theorem arg_ty {v : V} {d : D} {t : String} (h : Arg K ok H v d) (e : tyN d = some t) : TyX K H v (.type t) := by
  cases d with
  | non => cases e; cases h.non; exact .base .non
  | bl b => cases e; cases h.bl; exact .base (.bl _)
  | int b => cases e; cases h.int; exact .base (.int _)
  | str b => cases e; cases h.str; exact .base (.str _)
  | tup ds => cases e; obtain ⟨a, xs, rfl, h1, _⟩ := h.tup; exact seqT_ty h1
  | lst ds => cases e; obtain ⟨a, xs, rfl, h1, _⟩ := h.lst; exact seqL_ty h1
  | _ => cases e
theorem isi_kit {d : D} {n : String} {b : Bool} (h : isiD d n = some b) : ∃ t, tyN d = some t ∧ kitB t n = some b := by
  unfold isiD at h
  split at h
  · rename_i e; subst e
    cases d <;> first | cases h | skip
    all_goals exact ⟨_, rfl, by decide +kernel⟩
  · split at h
    · rename_i e; subst e
      cases d <;> first | cases h | skip
      all_goals exact ⟨_, rfl, by decide +kernel⟩
    · split at h
      · rename_i e; subst e
        cases d <;> first | cases h | skip
        all_goals exact ⟨_, rfl, by decide +kernel⟩
      · split at h
        · rename_i e; subst e
          cases d <;> first | cases h | skip
          all_goals exact ⟨_, rfl, by decide +kernel⟩
        · split at h
          · rename_i e; subst e
            cases d <;> first | cases h | skip
            all_goals exact ⟨_, rfl, by decide +kernel⟩
          · cases h
theorem reps_ints : ∀ {vs : List V} {ds : List D} {ns : List Int}, Reps K ok H vs ds → intsOf ds = some ns → vs = ns.map V.int
  | _, _, _, .nil, h => by cases h; rfl
  | _, _, ns, .cons (d := d) (ds := es) r s, h => by
    cases d <;> first | exact nomatch (show (none : Option (List Int)) = some _ from h) | skip
    unfold intsOf at h
    cases hn : intsOf es with
    | none => rw [hn] at h; cases h
    | some ms =>
      rw [hn] at h
      cases h
      cases r
      rw [reps_ints s hn]; rfl
theorem ints_reps : ∀ ns : List Int, Reps K ok H (ns.map V.int) (ns.map D.int)
  | [] => .nil
  | n :: ns => .cons (.int n) (ints_reps ns)
theorem intsOf_map : ∀ ns : List Int, intsOf (ns.map D.int) = some ns
  | [] => rfl
  | n :: ns => by
    rw [List.map_cons, intsOf, intsOf_map ns]; rfl
end

/-! ### sorted lists of numbers -/
theorem ins_perm (x : Int) : ∀ l : List Int, (ins x l).Perm (x :: l)
  | [] => .refl _
  | y :: ys => by
    unfold ins
    split
    · exact .refl _
    · exact ((ins_perm x ys).cons y).trans (.swap x y ys)
theorem isort_perm : ∀ l : List Int, (isort l).Perm l
  | [] => .refl _
  | x :: xs => (ins_perm x _).trans ((isort_perm xs).cons x)
theorem ins_sorted (x : Int) : ∀ {l : List Int}, l.Pairwise (· ≤ ·) → (ins x l).Pairwise (· ≤ ·)
  | [], _ => by simp [ins]
  | y :: ys, h => by
    unfold ins
    split
    · rename_i hxy
      rw [List.pairwise_cons] at h
      refine List.pairwise_cons.mpr ⟨fun z hz => ?_, List.pairwise_cons.mpr h⟩
      rcases List.mem_cons.mp hz with rfl | hz
      · exact hxy
      · exact Int.le_trans hxy (h.1 z hz)
    · rename_i hxy
      rw [List.pairwise_cons] at h
      refine List.pairwise_cons.mpr ⟨fun z hz => ?_, ins_sorted x h.2⟩
      rcases List.mem_cons.mp ((ins_perm x ys).mem_iff.mp hz) with rfl | hz
      · omega
      · exact h.1 z hz
theorem isort_sorted : ∀ l : List Int, (isort l).Pairwise (· ≤ ·)
  | [] => .nil
  | x :: xs => ins_sorted x (isort_sorted xs)
theorem sorted_unique : ∀ {l m : List Int}, l.Perm m → l.Pairwise (· ≤ ·) → m.Pairwise (· ≤ ·) → l = m
  | [], m, p, _, _ => (List.nil_perm.mp p).symm
  | x :: xs, [], p, _, _ => absurd p.symm (by simp)
  | x :: xs, y :: ys, p, h, k => by
    rw [List.pairwise_cons] at h k
    have e : x = y := by
      have h1 : x ∈ y :: ys := p.mem_iff.mp List.mem_cons_self
      have h2 : y ∈ x :: xs := p.mem_iff.mpr List.mem_cons_self
      rcases List.mem_cons.mp h1 with e | h1
      · exact e
      · rcases List.mem_cons.mp h2 with e | h2
        · exact e.symm
        · have a := k.1 x h1
          have b := h.1 y h2
          omega
    subst e
    rw [sorted_unique (List.Perm.cons_inv p) h.2 k.2]
section
variable {X : Cx}
theorem ddp_mem (k : Int) : ∀ l : List Int, k ∈ ddp l ↔ k ∈ l
  | [] => .rfl
  | x :: xs => by
    unfold ddp
    split
    · rename_i hx
      rw [ddp_mem k xs, List.mem_cons]
      exact ⟨.inr, fun h => h.elim (fun e => e ▸ hx) id⟩
    · rw [List.mem_cons, List.mem_cons, ddp_mem k xs]
theorem ddp_nodup : ∀ l : List Int, (ddp l).Nodup
  | [] => .nil
  | x :: xs => by
    unfold ddp
    split
    · exact ddp_nodup xs
    · rename_i hx
      exact List.nodup_cons.mpr ⟨fun h => hx ((ddp_mem x xs).mp h), ddp_nodup xs⟩
theorem perm_of_mem : ∀ {l m : List Int}, l.Nodup → m.Nodup → (∀ k, k ∈ l ↔ k ∈ m) → l.Perm m := fun hl hm h => (List.perm_ext_iff_of_nodup hl hm).mpr h
theorem sos_eq {ns ms : List Int} (h : ns.Pairwise (· < ·)) (e : ∀ k, k ∈ ns ↔ k ∈ ms) : ns = isort (ddp ms) := by
  have nd : ns.Nodup := h.imp fun q => Int.ne_of_lt q
  exact sorted_unique ((perm_of_mem nd (ddp_nodup ms) fun k => (e k).trans (ddp_mem k ms).symm).trans (isort_perm _).symm) (h.imp fun q => Int.le_of_lt q) (isort_sorted _)
/-- set(l) of a list of ints -/
def rSetIL (K : PySem.W.Frag) (w : World) : List V → Hp → VK → Prop := fun xs H Q => ∃ (a : Addr) (ns : List Int), xs = [V.ref a] ∧ SqL K H a (ns.map V.int) ∧ ns.length < 60 ∧
  ∀ p c, H p = none → c ≤ ns.length → Q (.ref p) (upd H p (SetO w p (fun j => decide (j ∈ ns)) c))
theorem cr_setIL (hc : X.calm = true) : CallR X (.type "set") (rSetIL X.K X.w) := by
  intro pins s σ H xs us Q I r h
  obtain ⟨a, ns, rfl, hl, hz, q⟩ := h
  rw [Vals.ref1 r]
  obtain ⟨its, rv, il, hlen⟩ := I.list hl
  refine set_of_list ns (I.ok.hd hc) (let ⟨o, n, ho, k1, _, k2⟩ := il; ⟨o, ho, k1, n, k2⟩) (by simpa using ints_of_vals rv) (by unfold scanBound; omega) fun s2 h2 => ?_
  obtain ⟨h', tk, c, rfl, R, c1, keep⟩ := h2
  exact ⟨.ref _, _, I.laid keep (Nat.le_refl _) (setO_new R), rfl, q _ c (I.hok.fresh (Nat.le_refl _)) c1⟩
/-- sorted(set(l)) -/
theorem sos_ok {xs : List V} {H : Hp} {Q : VK} (w : World) (h : rPn X.K pSos xs H Q) : rSetIL X.K w xs H fun v H1 => rSortedSet w [v] H1 Q := by
  obtain ⟨ds, sl, ok, hp, hn, ha, k⟩ := h
  unfold pSos at hp
  split at hp
  · rename_i ds'
    split at hp
    · rename_i hz
      cases hi : intsOf ds' with
      | none => rw [hi] at hp; cases hp
      | some ns =>
        rw [hi] at hp
        cases hp
        obtain ⟨v, rfl, q⟩ := ha.one
        obtain ⟨a, ys, rfl, h1, h2⟩ := q.lst
        have hl := h2.length
        cases reps_ints h2 hi
        rw [List.length_map] at hl
        refine ⟨a, ns, rfl, h1, by omega, fun p c np c1 => ⟨p, _, c, rfl, upd_same, by omega, fun ms p2 s1 s2 s3 n2 => ?_⟩⟩
        have e : ms = isort (ddp ns) := sos_eq s1 fun k => by rw [s2]; simp
        subst e
        have np2 : H p2 = none := by
          by_cases z : p2 = p
          · rw [z]; exact np
          · rw [upd_ne z] at n2; exact n2
        have ne : p2 ≠ p := fun z => by rw [z, upd_same] at n2; cases n2
        have P := ppost_lst (K := X.K) (ok := ok) (H := H) np2 (ints_reps (isort (ddp ns)))
        refine k _ _ ⟨fun b o e => ?_, _, rfl, np2, ?_⟩
        · have hb : b ≠ p2 := ne_of_none e np2
          have hb' : b ≠ p := ne_of_none e np
          rw [upd_ne hb, upd_ne hb']; exact e
        · exact ⟨_, upd_same, ints_reps _⟩
    · cases hp
  · cases hp
theorem repr_ok (hg : X.A.guards = some []) (hu : X.A.units + 64 < cLine) {pins : List (Addr × Obj)} {s : Shared} {σ : St} {H : Hp} {v : V} {u : Value} {Q : VK} {ok : Addr → Prop} {d : D} {sl : Sl} (I : Inv X pins σ H s) (r : RelV v u)
    (hp : pRepr d = some sl) (ha : Arg X.K ok H v d) (k : ∀ v H', PPost X.K ok H H' v sl → Q v H') : wpAny (model X.prog X.w) X.A (PySem.call (.builtin "repr") [u]) (EP X pins σ Q) X.xe s := by
  have go : ∀ (d' : D) (a : Addr), v = .ref a → d = d' → (d'.pl deepest && d'.py.showable && decide (d'.py.shown.length ≤ sizeLine)) = true → sl = .sh (.str d'.py.shown) → wpAny (model X.prog X.w) X.A (PySem.call (.builtin "repr") [u]) (EP X pins σ Q) X.xe s := fun d' a ev ed h es => by
    subst ev ed es
    simp only [Bool.and_eq_true] at h
    obtain ⟨⟨h1, h2⟩, h3⟩ := h
    obtain ⟨l1, l2⟩ := lay_py _ _ h1
    obtain ⟨as, R⟩ := Dp.reads I _ _ _ (ha.dp h1) r
    cases r
    refine repr_of_reads' R h2 (PySem.PyData.noDict_hsm (PySem.PyData.hasDict_of_canLay _ l1)) hg (by unfold deepest at l2; omega) (fun _ _ e => e) (fun h' t tk keep => ?_) (of_decide_eq_true h3)
    exact ⟨.str _, H, I.kept keep, ⟨_, rfl⟩, k _ _ (ppost_sh (.str _))⟩
  unfold pRepr at hp
  split at hp
  · split at hp
    · rename_i hz
      cases hp
      cases ha.int
      exact SkE.call_repr_int pins s σ H [_] [u] Q I (.cons r .nil) ⟨_, rfl, hz, k _ _ (ppost_sh (.str _))⟩
    · cases hp
  · split at hp
    · rename_i hz
      cases hp
      obtain ⟨a, ys, e, h1, h2⟩ := ha.lst
      exact go _ a e rfl hz rfl
    · cases hp
  · split at hp
    · rename_i hz
      cases hp
      obtain ⟨a, ys, e, h1, h2⟩ := ha.tup
      exact go _ a e rfl hz rfl
    · cases hp
  · cases hp
theorem blt_ok (hc : X.calm = true) (hg : X.A.guards = some []) (hu : X.A.units + 64 < cLine) (b : B) : CallR X b.val (rPn X.K (pBlt b)) := by
  intro pins s σ H xs us Q I r h
  obtain ⟨ds, sl, ok, hp, hn, ha, k⟩ := h
  have one : ∀ {d : D}, ds = [d] → ∃ v, xs = [v] ∧ Arg X.K ok H v d := fun e => by subst e; exact ha.one
  have two : ∀ {d e : D}, ds = [d, e] → ∃ v u, xs = [v, u] ∧ Arg X.K ok H v d ∧ Arg X.K ok H u e := fun e => by subst e; exact ha.two
  unfold pBlt at hp
  split at hp
  · split at hp
    · rename_i s' hz
      cases hp
      obtain ⟨v, rfl, q⟩ := one rfl
      cases q.str
      exact call_len_str pins s σ H _ us Q I r ⟨_, rfl, hz, k _ _ (ppost_sh (.int _))⟩
    · cases hp
  · cases hp
    obtain ⟨v, rfl, q⟩ := one rfl
    obtain ⟨a, ys, rfl, h1, h2⟩ := q.lst
    exact call_len_seq pins s σ H _ us Q I r ⟨a, ys, rfl, .inl h1, by rw [h2.length]; exact k _ _ (ppost_sh (.int _))⟩
  · cases hp
    obtain ⟨v, rfl, q⟩ := one rfl
    obtain ⟨a, ys, rfl, h1, h2⟩ := q.tup
    exact call_len_seq pins s σ H _ us Q I r ⟨a, ys, rfl, .inr h1, by rw [h2.length]; exact k _ _ (ppost_sh (.int _))⟩
  · cases hp
    obtain ⟨v, rfl, q⟩ := one rfl
    cases q.int
    exact call_abs pins s σ H _ us Q I r ⟨_, rfl, k _ _ (ppost_sh (.int _))⟩
  · cases hp
    obtain ⟨v, rfl, q⟩ := one rfl
    cases q.int
    exact call_int1 pins s σ H _ us Q I r (.inl ⟨_, rfl, k _ _ (ppost_sh (.int _))⟩)
  · cases hp
    obtain ⟨v, rfl, q⟩ := one rfl
    cases q.bl
    exact call_int1 pins s σ H _ us Q I r (.inr ⟨_, rfl, k _ _ (ppost_sh (.int _))⟩)
  · rename_i d n
    cases hi : isiD d n with
    | none => rw [hi] at hp; cases hp
    | some b =>
      rw [hi] at hp
      cases hp
      obtain ⟨v, u, rfl, q1, q2⟩ := two rfl
      cases q2.ty
      obtain ⟨t, e1, e2⟩ := isi_kit hi
      exact call_isi pins s σ H _ us Q I r ⟨_, _, _, _, b, rfl, .ty n, arg_ty q1 e1, kit_ty e2, k _ _ (ppost_sh (.bl _))⟩
  · cases hp
    obtain ⟨v, u, rfl, q1, q2⟩ := two rfl
    cases q1.int; cases q2.int
    exact call_max2 hc pins s σ H _ us Q I r ⟨_, _, rfl, k _ _ (ppost_sh (.int _))⟩
  · cases hp
    obtain ⟨v, u, rfl, q1, q2⟩ := two rfl
    cases q1.int; cases q2.int
    exact call_min2 hc pins s σ H _ us Q I r ⟨_, _, rfl, k _ _ (ppost_sh (.int _))⟩
  · cases hp
    obtain ⟨v, rfl, q⟩ := one rfl
    obtain ⟨a, ys, rfl, h1, h2⟩ := q.lst
    exact call_list_of pins s σ H _ us Q I r ⟨a, ys, rfl, .inl h1, fun l nl => k _ _ (ppost_lst nl h2)⟩
  · cases hp
    obtain ⟨v, rfl, q⟩ := one rfl
    obtain ⟨a, ys, rfl, h1, h2⟩ := q.tup
    exact call_list_of pins s σ H _ us Q I r ⟨a, ys, rfl, .inr h1, fun l nl => k _ _ (ppost_lst nl h2)⟩
  · cases hp
    obtain ⟨v, rfl, q⟩ := one rfl
    obtain ⟨a, ys, rfl, h1, h2⟩ := q.lst
    exact call_tuple_of pins s σ H _ us Q I r ⟨a, ys, rfl, .inl ⟨h1, fun l nl => k _ _ (ppost_tup hn nl h2)⟩⟩
  · cases hp
    obtain ⟨v, rfl, q⟩ := one rfl
    have q' := q.tupR
    obtain ⟨a, ys, rfl, h1, h2⟩ := q.tup
    exact call_tuple_of pins s σ H _ us Q I r ⟨a, ys, rfl, .inr ⟨h1, k _ _ (ppost_sh q')⟩⟩
  · rename_i ds'
    cases hi : intsOf ds' with
    | none => rw [hi] at hp; cases hp
    | some ns =>
      rw [hi] at hp
      cases hp
      obtain ⟨v, rfl, q⟩ := one rfl
      obtain ⟨a, ys, rfl, h1, h2⟩ := q.lst
      cases reps_ints h2 hi
      exact cr_sum hc pins s σ H _ us Q I r ⟨a, ns, rfl, h1, k _ _ (ppost_sh (.int _))⟩
  · rename_i ds'
    split at hp
    · rename_i hz
      cases hi : intsOf ds' with
      | none => rw [hi] at hp; cases hp
      | some ns =>
        rw [hi] at hp
        cases hp
        obtain ⟨v, rfl, q⟩ := one rfl
        obtain ⟨a, ys, rfl, h1, h2⟩ := q.lst
        have hl := h2.length
        cases reps_ints h2 hi
        rw [List.length_map] at hl
        refine cr_sorted pins s σ H _ us Q I r ⟨a, ns, rfl, h1, by omega, fun ns' p hp1 hp2 np => ?_⟩
        rw [sorted_unique (hp1.trans (isort_perm ns).symm) hp2 (isort_sorted ns)]
        exact k _ _ (ppost_lst np (ints_reps _))
    · cases hp
  · obtain ⟨v, rfl, q⟩ := one rfl
    obtain ⟨u, rfl, ru⟩ := r.one
    exact repr_ok hg hu I ru hp q k
  · cases hp
end
end RF


namespace RF
open PySem PySem.Spec PyProof.Rows L2
section
variable {K : PySem.W.Frag} {Z Z' : Addr → Prop} {e e' e'' : Env} {σ σ' : St} {H H' H'' : Hp} {i : Nat} {v : V} {d d' : D} {s : Sl}
theorem sh_ne : ∀ d' : D, Sl.sh d ≠ .ow d' := fun _ q => nomatch q
theorem mv_ne : ∀ d' : D, Sl.mv ≠ .ow d' := fun _ q => nomatch q
theorem un_ne : ∀ d' : D, Sl.un ≠ .ow d' := fun _ q => nomatch q
theorem set_get {α : Type} {l : List α} {i j : Nat} {x y : α} (h : (l.set i x)[j]? = some y) : (i = j ∧ x = y ∧ i < l.length) ∨ (i ≠ j ∧ l[j]? = some y) := by
  by_cases hij : i = j
  · subst hij
    by_cases hl : i < l.length
    · rw [List.getElem?_set_self hl] at h
      exact .inl ⟨rfl, Option.some.inj h, hl⟩
    · rw [List.getElem?_eq_none (by simpa using hl)] at h; cases h
  · rw [List.getElem?_set_ne hij] at h
    exact .inr ⟨hij, h⟩
theorem lt_of_get {α : Type} {l : List α} {i : Nat} {x : α} (h : l[i]? = some x) : i < l.length := (List.getElem?_eq_some_iff.mp h).1
/-- the names owned: an address, by its name -/
theorem EnvOk.own_at (E : EnvOk K Z e σ H) (h : e[i]? = some (.ow d)) : ∃ a, σ[i]? = some (some (.ref a)) ∧ ¬ Z a ∧ Own e σ a ∧ OwnAt K (Free Z e σ) H a d := by
  obtain ⟨a, h1, h2, h3⟩ := E.ow i d h
  exact ⟨a, h1, h2, ⟨i, d, h, h1⟩, h3⟩
theorem Own.set_other {j : Nat} {s : Sl} {a : Addr} (n : ∀ d, s ≠ .ow d) (h : Own (e.set j s) σ a) : Own e σ a := by
  obtain ⟨k, d, h1, h2⟩ := h
  rcases set_get h1 with ⟨_, q, _⟩ | ⟨_, q⟩
  · exact absurd q (n d)
  · exact ⟨k, d, q, h2⟩
/-- a name is let go of: it owns nothing any more -/
theorem EnvOk.drop (E : EnvOk K Z e σ H) (n : ∀ d, s ≠ .ow d) (hs : ∀ d, s = .sh d → ∃ v, σ[i]? = some (some v) ∧ Rep K (Free Z (e.set i s) σ) H v d) : EnvOk K Z (e.set i s) σ H := by
  have fr : ∀ b o, Free Z e σ b → H b = some o → Free Z (e.set i s) σ b ∧ H b = some o := fun b o f x => ⟨⟨f.1, fun h => f.2 (h.set_other n)⟩, x⟩
  refine ⟨by rw [List.length_set]; exact E.len, fun j d h => ?_, fun j d h => ?_, fun j k d d' a h1 h2 => ?_, E.dom⟩
  · rcases set_get h with ⟨rfl, q, _⟩ | ⟨_, q⟩
    · exact hs d q
    · obtain ⟨w, h1, h2⟩ := E.sh j d q
      exact ⟨w, h1, h2.mono fr⟩
  · rcases set_get h with ⟨_, q, _⟩ | ⟨_, q⟩
    · exact absurd q (n d)
    · obtain ⟨a, h1, h2, h3⟩ := E.ow j d q
      exact ⟨a, h1, h2, h3.mono fr fun _ x => x⟩
  · rcases set_get h1 with ⟨_, q, _⟩ | ⟨_, q⟩
    · exact absurd q (n d)
    · rcases set_get h2 with ⟨_, q', _⟩ | ⟨_, q'⟩
      · exact absurd q' (n d')
      · exact E.inj j k d d' a q q'
theorem EnvOk.own_out (E : EnvOk K Z e σ H) (h : e[i]? = some (.ow d)) {a : Addr} (ha : σ[i]? = some (some (.ref a))) (n : ∀ d, s ≠ .ow d) : ¬ Own (e.set i s) σ a := fun ⟨k, d', h1, h2⟩ => by
  rcases set_get h1 with ⟨_, q, _⟩ | ⟨q0, q⟩
  · exact n d' q
  · exact q0 (E.inj i k d d' a h q ha h2)
/-- an owned name is frozen -/
theorem EnvOk.freeze (E : EnvOk K Z e σ H) (h : e[i]? = some (.ow d)) : ∃ a, σ[i]? = some (some (.ref a)) ∧ Rep K (Free Z (e.set i (.sh d)) σ) H (.ref a) d ∧ EnvOk K Z (e.set i (.sh d)) σ H := by
  obtain ⟨a, h1, h2, _, h3⟩ := E.own_at h
  have fr : ∀ b o, Free Z e σ b → H b = some o → Free Z (e.set i (.sh d)) σ b ∧ H b = some o := fun b o f x => ⟨⟨f.1, fun h => f.2 (h.set_other sh_ne)⟩, x⟩
  have r : Rep K (Free Z (e.set i (.sh d)) σ) H (.ref a) d := (h3.mono fr fun _ x => x).rep ⟨h2, E.own_out h h1 sh_ne⟩
  exact ⟨a, h1, r, E.drop (sh_ne) fun d' q => by cases q; exact ⟨_, h1, r⟩⟩
/-- something more is set aside that nothing reaches -/
theorem EnvOk.aside (E : EnvOk K Z e σ H) {a : Addr} (ho : ∃ o, H a = some o) (no : ¬ Own e σ a) (nr : ∀ b o, Free Z e σ b → H b = some o → b ≠ a) : EnvOk K (fun b => Z b ∨ b = a) e σ H := by
  have fr : ∀ b o, Free Z e σ b → H b = some o → Free (fun b => Z b ∨ b = a) e σ b ∧ H b = some o := fun b o f x => ⟨⟨fun z => z.elim f.1 (nr b o f x), f.2⟩, x⟩
  refine ⟨E.len, fun j d h => ?_, fun j d h => ?_, E.inj, fun b z => ?_⟩
  · obtain ⟨w, h1, h2⟩ := E.sh j d h
    exact ⟨w, h1, h2.mono fr⟩
  · obtain ⟨b, h1, h2, h3⟩ := E.ow j d h
    exact ⟨b, h1, fun z => z.elim h2 fun q => no (q ▸ ⟨j, d, h, h1⟩), h3.mono fr fun _ x => x⟩
  · rcases z with z | rfl
    · exact E.dom b z
    · exact ho
theorem EnvOk.less' (E : EnvOk K Z e σ H) (h : ∀ a, Z' a ↔ Z a) : EnvOk K Z' e σ H := E.less fun a z => (h a).mp z
theorem zp_iff {a b : Addr} : Zp Z (.ref a) (.ow d) b ↔ (Z b ∨ b = a) := by
  constructor
  · rintro (h | h)
    · exact .inl h
    · have h' : V.ref a = V.ref b := h
      cases h'; exact .inr rfl
  · rintro (h | rfl)
    · exact .inl h
    · exact .inr rfl
theorem zp_sh {b : Addr} : Zp Z v (.sh d) b ↔ Z b := ⟨fun h => h.elim id False.elim, .inl⟩
/-- an owned name is handed on -/
theorem EnvOk.move (E : EnvOk K Z e σ H) (h : e[i]? = some (.ow d)) : ∃ a, σ[i]? = some (some (.ref a)) ∧ Own e σ a ∧ EnvOk K (Zp Z (.ref a) (.ow d)) (e.set i .mv) σ H ∧ VOk K Z (e.set i .mv) σ H (.ref a) (.ow d) := by
  obtain ⟨a, h1, h2, h4, h3⟩ := E.own_at h
  have fr : ∀ b o, Free Z e σ b → H b = some o → b ≠ a := fun b o f x q => f.2 (q ▸ h4)
  have E1 : EnvOk K Z (e.set i .mv) σ H := E.drop (mv_ne) fun d' q => nomatch q
  have no := E.own_out (s := .mv) h h1 mv_ne
  have E2 : EnvOk K (fun b => Z b ∨ b = a) (e.set i .mv) σ H := by
    obtain ⟨o, ho, _⟩ := h3.some
    -- every value avoids a: it did so before
    refine ⟨E1.len, fun j d' q => ?_, fun j d' q => ?_, E1.inj, fun b z => z.elim (E.dom b) fun q => q ▸ ⟨o, ho⟩⟩
    · rcases set_get q with ⟨_, q', _⟩ | ⟨q0, q'⟩
      · exact nomatch q'
      · obtain ⟨w, k1, k2⟩ := E.sh j d' q'
        exact ⟨w, k1, k2.mono fun b o f x => ⟨⟨fun z => z.elim f.1 (fr b o f x), fun z => f.2 (z.set_other mv_ne)⟩, x⟩⟩
    · rcases set_get q with ⟨_, q', _⟩ | ⟨q0, q'⟩
      · exact nomatch q'
      · obtain ⟨b, k1, k2, k3⟩ := E.ow j d' q'
        exact ⟨b, k1, fun z => z.elim k2 fun w => q0 (E.inj i j d d' a h q' h1 (w ▸ k1)), k3.mono (fun b o f x => ⟨⟨fun z => z.elim f.1 (fr b o f x), fun z => f.2 (z.set_other mv_ne)⟩, x⟩) fun _ x => x⟩
  refine ⟨a, h1, h4, E2.less' fun b => zp_iff, a, rfl, h2, no, h3.mono (fun b o f x => ⟨⟨fun z => (zp_iff.mp z).elim f.1 (fr b o f x), fun z => f.2 (z.set_other mv_ne)⟩, x⟩) fun _ x => x⟩
/-- a value is given to a name -/
theorem EnvOk.give (E : EnvOk K (Zp Z v s) e σ H) (r : VOk K Z e σ H v s) (hi : i < e.length) : EnvOk K Z (e.set i s) (σ.set i (some v)) H := by
  have hiσ : i < σ.length := by rw [← E.len]; exact hi
  have ownd : ∀ a, Own (e.set i s) (σ.set i (some v)) a → Own e σ a ∨ zOf v s a := fun a ⟨k, d, h1, h2⟩ => by
    rcases set_get h1 with ⟨rfl, q, _⟩ | ⟨q0, q⟩
    · rw [List.getElem?_set_self hiσ] at h2
      subst q
      exact .inr (show v = .ref a from Option.some.inj (Option.some.inj h2))
    · rw [List.getElem?_set_ne q0] at h2
      exact .inl ⟨k, d, q, h2⟩
  have fr : ∀ b o, Free (Zp Z v s) e σ b → H b = some o → Free Z (e.set i s) (σ.set i (some v)) b ∧ H b = some o := fun b o f x =>
    ⟨⟨fun z => f.1 (.inl z), fun h => (ownd b h).elim f.2 fun z => f.1 (.inr z)⟩, x⟩
  have new_ne : ∀ j d a, i ≠ j → e[j]? = some (.ow d) → σ[j]? = some (some (.ref a)) → ¬ zOf v s a := fun j d a _ h1 h2 z => by
    obtain ⟨a', k1, k2, _⟩ := E.ow j d h1
    rw [h2] at k1; cases k1
    exact k2 (.inr z)
  refine ⟨by rw [List.length_set, List.length_set]; exact E.len, fun j d h => ?_, fun j d h => ?_, fun j k d d' a h1 h2 h3 h4 => ?_, fun a z => E.dom a (.inl z)⟩
  · rcases set_get h with ⟨rfl, q, _⟩ | ⟨q0, q⟩
    · subst q
      exact ⟨v, List.getElem?_set_self hiσ, r.mono fun b o f x => fr b o ⟨fun z => f.1 (zp_sh.mp z), f.2⟩ x⟩
    · obtain ⟨w, h1, h2⟩ := E.sh j d q
      exact ⟨w, by rw [List.getElem?_set_ne q0]; exact h1, h2.mono fr⟩
  · rcases set_get h with ⟨rfl, q, _⟩ | ⟨q0, q⟩
    · subst q
      obtain ⟨a, rfl, h2, h3, h4⟩ := r
      exact ⟨a, List.getElem?_set_self hiσ, h2, h4.mono fr fun _ x => x⟩
    · obtain ⟨a, h1, h2, h3⟩ := E.ow j d q
      exact ⟨a, by rw [List.getElem?_set_ne q0]; exact h1, fun z => h2 (.inl z), h3.mono fr fun _ x => x⟩
  · rcases set_get h1 with ⟨e1, q1, _⟩ | ⟨n1, q1⟩
    · rcases set_get h2 with ⟨e2, q2, _⟩ | ⟨n2, q2⟩
      · rw [← e1, ← e2]
      · subst e1; subst q1
        rw [List.getElem?_set_self hiσ] at h3
        rw [List.getElem?_set_ne n2] at h4
        exact absurd (show v = .ref a from Option.some.inj (Option.some.inj h3)) (new_ne k d' a n2 q2 h4)
    · rcases set_get h2 with ⟨e2, q2, _⟩ | ⟨n2, q2⟩
      · subst e2; subst q2
        rw [List.getElem?_set_self hiσ] at h4
        rw [List.getElem?_set_ne n1] at h3
        exact absurd (show v = .ref a from Option.some.inj (Option.some.inj h4)) (new_ne j d a n1 q1 h3)
      · rw [List.getElem?_set_ne n1] at h3
        rw [List.getElem?_set_ne n2] at h4
        exact E.inj j k d d' a q1 q2 h3 h4
theorem own_give {a : Addr} (h : Own (e.set i s) (σ.set i (some v)) a) : Own e σ a ∨ zOf v s a := by
  obtain ⟨k, d, h1, h2⟩ := h
  rcases set_get h1 with ⟨rfl, q, hl⟩ | ⟨q0, q⟩
  · subst q
    by_cases hs : i < σ.length
    · rw [List.getElem?_set_self hs] at h2
      exact .inr (show v = .ref a from Option.some.inj (Option.some.inj h2))
    · rw [List.getElem?_eq_none (by simpa using hs)] at h2; cases h2
  · rw [List.getElem?_set_ne q0] at h2
    exact .inl ⟨k, d, q, h2⟩
/-- the owned thing of a name is changed -/
theorem EnvOk.change {a : Addr} {o : HO} (E : EnvOk K Z e σ H) (h : e[i]? = some (.ow d)) (ha : σ[i]? = some (some (.ref a))) (new : OwnAt K (Free Z e σ) (upd H a o) a d') : EnvOk K Z (e.set i (.ow d')) σ (upd H a o) := by
  have own1 : ∀ b, Own (e.set i (.ow d')) σ b → Own e σ b := fun b ⟨k, d2, h1, h2⟩ => by
    rcases set_get h1 with ⟨rfl, q, _⟩ | ⟨_, q⟩
    · exact ⟨i, d, h, h2⟩
    · exact ⟨k, d2, q, h2⟩
  have oa : Own e σ a := ⟨i, d, h, ha⟩
  have fr : ∀ b u, Free Z e σ b → H b = some u → Free Z (e.set i (.ow d')) σ b ∧ upd H a o b = some u := fun b u f x =>
    ⟨⟨f.1, fun z => f.2 (own1 b z)⟩, by
      have nb : b ≠ a := fun q => f.2 (by rw [q]; exact oa)
      rw [upd_ne nb]; exact x⟩
  have fr2 : ∀ b u, Free Z e σ b → upd H a o b = some u → Free Z (e.set i (.ow d')) σ b ∧ upd H a o b = some u := fun b u f x => ⟨⟨f.1, fun z => f.2 (own1 b z)⟩, x⟩
  have nz := E.own_nz oa
  refine ⟨by rw [List.length_set]; exact E.len, fun j d2 q => ?_, fun j d2 q => ?_, fun j k d2 d3 b h1 h2 => ?_, fun b z => ?_⟩
  · rcases set_get q with ⟨_, q', _⟩ | ⟨q0, q'⟩
    · exact nomatch q'
    · obtain ⟨w, h1, h2⟩ := E.sh j d2 q'
      exact ⟨w, h1, h2.mono fr⟩
  · rcases set_get q with ⟨rfl, q', _⟩ | ⟨q0, q'⟩
    · cases q'
      exact ⟨a, ha, nz, new.mono fr2 fun _ x => x⟩
    · obtain ⟨b, h1, h2, h3⟩ := E.ow j d2 q'
      have nb : b ≠ a := fun q => q0 (E.inj i j d d2 a h q' ha (q ▸ h1))
      exact ⟨b, h1, h2, h3.mono fr fun u x => by rw [upd_ne nb]; exact x⟩
  · have old : ∀ {j : Nat} {d2 : D}, (e.set i (.ow d'))[j]? = some (.ow d2) → ∃ d3 : D, e[j]? = some (.ow d3) := fun {j d2} q => by
      rcases set_get q with ⟨rfl, _, _⟩ | ⟨_, q'⟩
      · exact ⟨d, h⟩
      · exact ⟨d2, q'⟩
    obtain ⟨x, hx⟩ := old h1
    obtain ⟨y, hy⟩ := old h2
    exact E.inj j k x y b hx hy
  · obtain ⟨u, x⟩ := E.dom b z
    have nb : b ≠ a := fun q => nz (by rw [← q]; exact z)
    exact ⟨u, by rw [upd_ne nb]; exact x⟩
end

/-! ### arguments -/
/-- e, H behind a row of arguments that began with Z aside: Zf is aside now -/
inductive AVs (K : PySem.W.Frag) (Z Zf : Addr → Prop) (e : Env) (σ : St) (H : Hp) : List V → List AV → Prop
  | nil : AVs K Z Zf e σ H [] []
  | nm {v : V} {i : Nat} {vs : List V} {as : List AV} : σ[i]? = some (some v) → AVs K Z Zf e σ H vs as → AVs K Z Zf e σ H (v :: vs) (.nm i :: as)
  | sh {v : V} {d : D} {vs : List V} {as : List AV} : Rep K (Free Zf e σ) H v d → AVs K Z Zf e σ H vs as → AVs K Z Zf e σ H (v :: vs) (.vl (.sh d) :: as)
  | ow {a : Addr} {d : D} {vs : List V} {as : List AV} : ¬ Z a → Zf a → ¬ Own e σ a → OwnAt K (Free Zf e σ) H a d → (∀ (k : Nat) (d' : D), as[k]? = some (.vl (.ow d')) → vs[k]? ≠ some (.ref a)) →
      AVs K Z Zf e σ H vs as → AVs K Z Zf e σ H (.ref a :: vs) (.vl (.ow d) :: as)
section
variable {K : PySem.W.Frag} {Z Zf : Addr → Prop} {e : Env} {σ : St} {H : Hp}
/-- the values looked at -/
theorem AVs.args (E : EnvOk K Zf e σ H) (hz : ∀ a, Z a → Zf a) : ∀ {vs : List V} {as : List AV} {ds : List D}, AVs K Z Zf e σ H vs as → look e as = some ds → Args K (Free Z e σ) H vs ds
  | _, _, _, .nil, h => by cases h; exact .nil
  | _, _, ds, .nm (i := i) (v := v) (as := as) q r, h => by
    have fr : ∀ b o, Free Zf e σ b → H b = some o → Free Z e σ b ∧ H b = some o := fun b o f x => ⟨⟨fun z => f.1 (hz b z), f.2⟩, x⟩
    unfold look at h
    cases hs : e[i]? with
    | none => rw [hs] at h; cases h
    | some s =>
      rw [hs] at h
      simp only at h
      cases hd : s.d with
      | none => rw [hd] at h; cases h
      | some d =>
        rw [hd] at h
        simp only at h
        cases hl : look e as with
        | none => rw [hl] at h; cases h
        | some ds' =>
          rw [hl] at h
          cases h
          refine .cons ?_ (AVs.args E hz r hl)
          cases s with
          | sh d' =>
            cases hd
            obtain ⟨w, h1, h2⟩ := E.sh i d hs
            rw [q] at h1; cases h1
            exact .inl (h2.mono fr)
          | ow d' =>
            cases hd
            obtain ⟨a, h1, _, h2⟩ := E.ow i d hs
            rw [q] at h1; cases h1
            exact .inr ⟨a, rfl, h2.mono fr fun _ x => x⟩
          | un => cases hd
          | mv => cases hd
  | _, _, ds, .sh (d := d) (as := as) q r, h => by
    have fr : ∀ b o, Free Zf e σ b → H b = some o → Free Z e σ b ∧ H b = some o := fun b o f x => ⟨⟨fun z => f.1 (hz b z), f.2⟩, x⟩
    unfold look at h
    simp only [Sl.d] at h
    cases hl : look e as with
    | none => rw [hl] at h; cases h
    | some ds' => rw [hl] at h; cases h; exact .cons (.inl (q.mono fr)) (AVs.args E hz r hl)
  | _, _, ds, .ow (d := d) (as := as) _ _ _ q _ r, h => by
    have fr : ∀ b o, Free Zf e σ b → H b = some o → Free Z e σ b ∧ H b = some o := fun b o f x => ⟨⟨fun z => f.1 (hz b z), f.2⟩, x⟩
    unfold look at h
    simp only [Sl.d] at h
    cases hl : look e as with
    | none => rw [hl] at h; cases h
    | some ds' => rw [hl] at h; cases h; exact .cons (.inr ⟨_, rfl, q.mono fr fun _ x => x⟩) (AVs.args E hz r hl)
/-- the values that a display takes up -/
theorem AVs.reps (hz : ∀ a, Z a → Zf a) : ∀ {vs : List V} {as : List AV} {ds : List D}, AVs K Z Zf e σ H vs as → vals as = some ds → Reps K (Free Z e σ) H vs ds
  | _, _, _, .nil, h => by cases h; exact .nil
  | _, _, ds, .nm _ _, h => nomatch h
  | _, _, ds, .sh (d := d) (as := as) q r, h => by
    unfold vals at h
    simp only [Sl.d] at h
    cases hl : vals as with
    | none => rw [hl] at h; cases h
    | some ds' => rw [hl] at h; cases h; exact .cons (q.mono fun b o f x => ⟨⟨fun z => f.1 (hz b z), f.2⟩, x⟩) (AVs.reps hz r hl)
  | _, _, ds, .ow (d := d) (as := as) nz _ no q _ r, h => by
    unfold vals at h
    simp only [Sl.d] at h
    cases hl : vals as with
    | none => rw [hl] at h; cases h
    | some ds' =>
      rw [hl] at h; cases h
      exact .cons ((q.mono (ok' := Free Z e σ) (fun b o f x => ⟨⟨fun z => f.1 (hz b z), f.2⟩, x⟩) fun _ x => x).rep ⟨nz, no⟩) (AVs.reps hz r hl)
end
end RF


namespace RF
open PySem PySem.Spec PyProof.Rows L2
/-- from e, H to e', H' at the names σ; Z, then Zf is kept aside -/
structure Step (K : PySem.W.Frag) (Z Zf : Addr → Prop) (e : Env) (σ : St) (H : Hp) (e' : Env) (H' : Hp) : Prop where
  env : EnvOk K Zf e' σ H'
  keep : Keeps (Own e σ) H H'
  own : ∀ a, Own e' σ a → Own e σ a
  zsub : ∀ a, Z a → Zf a
  new : ∀ a, Zf a → Z a ∨ H a = none ∨ Own e σ a
section
variable {K : PySem.W.Frag} {Z Z1 Z2 Zf : Addr → Prop} {e e1 e2 : Env} {σ : St} {H H1 H2 : Hp} {v : V} {s : Sl} {d : D}
theorem Step.refl (E : EnvOk K Z e σ H) : Step K Z Z e σ H e H := ⟨E, .refl, fun _ h => h, fun _ h => h, fun _ h => .inl h⟩
theorem Step.none_back (S : Step K Z Z1 e σ H e1 H1) {a : Addr} (h : H1 a = none) : H a = none ∨ Own e σ a := by
  by_cases o : Own e σ a
  · exact .inr o
  · cases q : H a with
    | none => exact .inl rfl
    | some u => rw [S.keep a u q o] at h; cases h
theorem Step.trans (S : Step K Z Z1 e σ H e1 H1) (T : Step K Z1 Z2 e1 σ H1 e2 H2) : Step K Z Z2 e σ H e2 H2 :=
  ⟨T.env, S.keep.trans T.keep fun a _ _ h => S.own a h, fun a h => S.own a (T.own a h), fun a h => T.zsub a (S.zsub a h), fun a h => by
    rcases T.new a h with z | z | z
    · exact S.new a z
    · exact .inr (S.none_back z)
    · exact .inr (.inr (S.own a z))⟩
/-- what was set aside is let go -/
theorem Step.less (S : Step K Z Zf e σ H e1 H1) (h : ∀ a, Z2 a → Zf a) (h' : ∀ a, Z a → Z2 a) : Step K Z Z2 e σ H e1 H1 :=
  ⟨S.env.less h, S.keep, S.own, h', fun a z => S.new a (h a z)⟩
theorem Step.down (S : Step K Z Zf e σ H e1 H1) : Step K Z Z e σ H e1 H1 := S.less S.zsub fun _ h => h
theorem Step.zsh (S : Step K Z Z e σ H e1 H1) : Step K Z (Zp Z v (.sh d)) e σ H e1 H1 := S.less (fun _ h => zp_sh.mp h) fun _ h => .inl h
/-- a value stays behind a step -/
theorem Step.rep (S : Step K Z Zf e σ H e1 H1) (r : Rep K (Free Z e σ) H v d) : Rep K (Free Zf e1 σ) H1 v d := r.mono fun b o f x => ⟨⟨fun z => by
    rcases S.new b z with z | z | z
    · exact f.1 z
    · rw [x] at z; cases z
    · exact f.2 z, fun z => f.2 (S.own b z)⟩, S.keep b o x f.2⟩
theorem Step.mono (S : Step K Z Zf e σ H e1 H1) : ∀ b o, Free Z e σ b → H b = some o → Free Zf e1 σ b ∧ H1 b = some o := fun b o f x => ⟨⟨fun z => by
    rcases S.new b z with z | z | z
    · exact f.1 z
    · rw [x] at z; cases z
    · exact f.2 z, fun z => f.2 (S.own b z)⟩, S.keep b o x f.2⟩
/-- a value behind one's own step, through the next one -/
theorem Step.val (S : Step K (Zp Z v s) Zf e σ H e1 H1) (r : VOk K Z e σ H v s) {d : D} (hd : s.d = some d) : Rep K (Free Z e1 σ) H1 v d := by
  have q := r.down hd
  refine q.mono fun b o f x => ⟨⟨f.1, fun z => f.2 (S.own b z)⟩, S.keep b o x f.2⟩

def EW (K : PySem.W.Frag) (Z : Addr → Prop) (e : Env) (σ : St) (H : Hp) (Wx : Str → Hp → Prop) (r : Res (Sl × Env)) (Q : VK) : Prop :=
  match r with
  | .ok (s, e') => ∀ v H', Step K Z (Zp Z v s) e σ H e' H' → VOk K Z e' σ H' v s → Q v H'
  | .ex c => ∀ H', Keeps (Own e σ) H H' → Wx c H'
  | .bad => False
def TW (K : PySem.W.Frag) (Z : Addr → Prop) (e : Env) (σ : St) (H : Hp) (Wx : Str → Hp → Prop) (r : Res (Bool × Env)) (Q : Bool → Hp → Prop) : Prop :=
  match r with
  | .ok (b, e') => ∀ H', Step K Z Z e σ H e' H' → Q b H'
  | .ex c => ∀ H', Keeps (Own e σ) H H' → Wx c H'
  | .bad => False
def AW (K : PySem.W.Frag) (Z : Addr → Prop) (e : Env) (σ : St) (H : Hp) (Wx : Str → Hp → Prop) (r : Res (List AV × Env)) (Q : List V → Hp → Prop) : Prop :=
  match r with
  | .ok (as, e') => ∀ vs H' Zf, Step K Z Zf e σ H e' H' → AVs K Z Zf e' σ H' vs as → Q vs H'
  | .ex c => ∀ H', Keeps (Own e σ) H H' → Wx c H'
  | .bad => False
end
/-- what a walk walks: the values ds; R0: the addresses that are left alone, as they stand in H1 -/
structure Wk (K : PySem.W.Frag) (J : It) (R0 : Addr → Prop) (H1 : Hp) (ds : List D) : Prop where
  go : ∀ i d H, ds[i]? = some d → (∀ a o, R0 a → H1 a = some o → H a = some o) → J.go i H ∧ ∀ x H', J.yld i H x H' → (∀ a o, H a = some o → H' a = some o) ∧ Rep K (fun a => (R0 a ∧ ∃ o, H1 a = some o) ∨ H a = none) H' x d
  stop : ∀ i H, ds.length ≤ i → (∀ a o, R0 a → H1 a = some o → H a = some o) → J.stop i H
def IW (K : PySem.W.Frag) (Z : Addr → Prop) (e : Env) (σ : St) (H : Hp) (Wx : Str → Hp → Prop) (r : Res (List D × Env)) (Q : It → Hp → Prop) : Prop :=
  match r with
  | .ok (ds, e') => ∀ J H', Step K Z Z e σ H e' H' → Wk K J (Free Z e' σ) H' ds → Q J H'
  | .ex c => ∀ H', Keeps (Own e σ) H H' → Wx c H'
  | .bad => False

/-! ### readings -/
abbrev WN := St → Str → Hp → Prop
def tE (K : PySem.W.Frag) (Wn : WN) (r : Env → Res (Sl × Env)) : TE := fun σ H Q => ∃ Z e, EnvOk K Z e σ H ∧ EW K Z e σ H (Wn σ) (r e) Q
def tT (K : PySem.W.Frag) (Wn : WN) (r : Env → Res (Bool × Env)) : TT := fun σ H Q => ∃ Z e, EnvOk K Z e σ H ∧ TW K Z e σ H (Wn σ) (r e) Q
def tA (K : PySem.W.Frag) (Wn : WN) (r : Env → Res (List AV × Env)) : TA := fun σ H Q => ∃ Z e, EnvOk K Z e σ H ∧ AW K Z e σ H (Wn σ) (r e) Q
def tI (K : PySem.W.Frag) (Wn : WN) (r : Env → Res (List D × Env)) : TI := fun σ H Q => ∃ Z e, EnvOk K Z e σ H ∧ IW K Z e σ H (Wn σ) (r e) Q
section
variable {X : Cx} {Wn : WN} {e : Expr} {es : List Expr}
theorem pe_imp {t t' : TE} (h : PE X e t) (i : ∀ σ H Q, t' σ H Q → t σ H Q) : PE X e t' := ⟨fun pins s σ H Q I q => h.run pins s σ H Q I (i σ H Q q)⟩
theorem pt_imp {t t' : TT} (h : PT X e t) (i : ∀ σ H Q, t' σ H Q → t σ H Q) : PT X e t' := ⟨fun pins s σ H Q I q => h.run pins s σ H Q I (i σ H Q q)⟩
theorem pa_imp {t t' : TA} (h : PA X es t) (i : ∀ σ H Q, t' σ H Q → t σ H Q) : PA X es t' := ⟨fun pos pins s σ H Q I q => h.run pos pins s σ H Q I (i σ H Q q)⟩
theorem pi_imp {tg : Expr} {t t' : TI} (h : PI X tg e t) (i : ∀ σ H Q, t' σ H Q → t σ H Q) : PI X tg e t' := ⟨fun pins s σ H Q I q => h.run pins s σ H Q I (i σ H Q q)⟩
theorem ps_imp {st : Stmt} {t t' : TS} (h : PS X st t) (i : ∀ D σ H, t' D σ H → t D σ H) : PS X st t' := ⟨fun pins s σ H Q I q => h.run pins s σ H Q I (i Q σ H q)⟩
theorem pss_imp {st : List Stmt} {t t' : TS} (h : PSs X st t) (i : ∀ D σ H, t' D σ H → t D σ H) : PSs X st t' := ⟨fun pins s σ H Q I q => h.run pins s σ H Q I (i Q σ H q)⟩
end

/-! ### names, constants -/
section
variable {G : Sig} {call : Nat → List Sl → Res (Sl × List Sl)} {K : PySem.W.Frag} {Wn : WN} {Z : Addr → Prop} {e : Env} {σ : St} {H : Hp} {Wx : Str → Hp → Prop} {Q : VK}
theorem ew_var {i : Nat} (E : EnvOk K Z e σ H) (h : EW K Z e σ H Wx (valOf (ev G call (.var i) e)) Q) : tVar i σ H Q := by
  unfold ev at h
  cases hs : e[i]? with
  | none => rw [hs] at h; exact h.elim
  | some s =>
    rw [hs] at h
    cases s with
    | sh d =>
      obtain ⟨v, h1, h2⟩ := E.sh i d hs
      exact ⟨v, h1, h v H (Step.refl E).zsh h2⟩
    | ow d =>
      obtain ⟨a, h1, h2, h3⟩ := E.freeze hs
      exact ⟨_, h1, h _ H (Step.zsh ⟨h3, .refl, fun b z => z.set_other sh_ne, fun _ z => z, fun _ z => .inl z⟩) h2⟩
    | un => exact h.elim
    | mv => exact h.elim
theorem ew_mov {i : Nat} (E : EnvOk K Z e σ H) (h : EW K Z e σ H Wx (valOf (ev G call (.mov i) e)) Q) : tVar i σ H Q := by
  unfold ev at h
  cases hs : e[i]? with
  | none => rw [hs] at h; exact h.elim
  | some s =>
    rw [hs] at h
    cases s with
    | sh d =>
      obtain ⟨v, h1, h2⟩ := E.sh i d hs
      exact ⟨v, h1, h v H (Step.refl E).zsh h2⟩
    | ow d =>
      obtain ⟨a, h1, h2, h3, h4⟩ := E.move hs
      refine ⟨_, h1, h _ H ⟨h3, .refl, fun b z => z.set_other mv_ne, fun _ z => .inl z, fun b z => ?_⟩ h4⟩
      rcases zp_iff.mp z with z | rfl
      · exact .inl z
      · exact .inr (.inr h2)
    | un => exact h.elim
    | mv => exact h.elim
/-- a constant -/
theorem ew_const {v : V} {d : D} (E : EnvOk K Z e σ H) (r : Rep K (Free Z e σ) H v d) (h : EW K Z e σ H Wx (.ok (.sh d, e)) Q) : Q v H := h v H (Step.refl E).zsh r

/-! ### arguments -/
theorem AVs.cons_val {v : V} {s : Sl} {Zf : Addr → Prop} {e1 e2 : Env} {H1 H2 : Hp} {vs : List V} {as : List AV} (r : VOk K Z e1 σ H1 v s) (E1 : EnvOk K (Zp Z v s) e1 σ H1) (S : Step K (Zp Z v s) Zf e1 σ H1 e2 H2)
    (A : AVs K (Zp Z v s) Zf e2 σ H2 vs as) : AVs K Z Zf e2 σ H2 (v :: vs) (.vl s :: as) := by
  have weak : ∀ {vs : List V} {as : List AV}, AVs K (Zp Z v s) Zf e2 σ H2 vs as → AVs K Z Zf e2 σ H2 vs as := by
    intro vs as A
    induction A with
    | nil => exact .nil
    | nm h _ ih => exact .nm h ih
    | sh h _ ih => exact .sh h ih
    | ow h1 h2 h3 h4 h5 _ ih => exact .ow (fun z => h1 (.inl z)) h2 h3 h4 h5 ih
  cases s with
  | sh d => exact .sh (S.rep (d := d) (r.mono fun b o f x => ⟨⟨fun z => f.1 (zp_sh.mp z), f.2⟩, x⟩)) (weak A)
  | ow d =>
    obtain ⟨a, rfl, h1, h2, h3⟩ := r
    refine .ow h1 (S.zsub a (.inr rfl)) (fun z => h2 (S.own a z)) (h3.mono S.mono fun o x => S.keep a o x h2) (fun k d' ha hv => ?_) (weak A)
    -- a later own thing is another one: it is not aside yet
    have : ∀ {vs : List V} {as : List AV}, AVs K (Zp Z (.ref a) (.ow d)) Zf e2 σ H2 vs as → ∀ (k : Nat), as[k]? = some (.vl (.ow d')) → vs[k]? = some (.ref a) → False := by
      intro vs as A
      induction A with
      | nil => intro k h; simp at h
      | nm _ _ ih =>
        intro k h h'
        cases k with
        | zero => simp at h
        | succ k => exact ih k (by simpa using h) (by simpa using h')
      | sh _ _ ih =>
        intro k h h'
        cases k with
        | zero => simp at h
        | succ k => exact ih k (by simpa using h) (by simpa using h')
      | ow n1 _ _ _ _ _ ih =>
        intro k h h'
        cases k with
        | zero =>
          simp at h'
          exact n1 (.inr (show V.ref a = .ref _ by rw [h']))
        | succ k => exact ih k (by simpa using h) (by simpa using h')
    exact this A k ha hv
  | un => exact r.elim
  | mv => exact r.elim
def chain : List TE → TA
  | [] => tNil
  | t :: ts => tCons t (chain ts)
/-- the readings of a row of arguments -/
def heads (K : PySem.W.Frag) (Wn : WN) (G : Sig) (call : Nat → List Sl → Res (Sl × List Sl)) : I → List TE
  | .argN i es => tVar i :: heads K Wn G call es
  | .consE a es => tE K Wn (fun e => valOf (ev G call a e)) :: heads K Wn G call es
  | _ => []
/-- a row of arguments is one -/
def isRow : I → Bool
  | .nilE => true
  | .argN _ es => isRow es
  | .consE _ es => isRow es
  | _ => false
theorem aw_chain : ∀ (ie : I), isRow ie = true → ∀ {Z : Addr → Prop} {e : Env} {σ : St} {H : Hp} {Q : List V → Hp → Prop}, EnvOk K Z e σ H → AW K Z e σ H (Wn σ) (argsOf (ev G call ie e)) Q → chain (heads K Wn G call ie) σ H Q := by
  intro ie
  induction ie with
  | nilE =>
    intro _ Z e σ H Q E h
    exact h [] H Z (Step.refl E) .nil
  | argN i es ih =>
    intro hr Z e σ H Q E h
    rw [ev] at h
    have main : ∀ v, σ[i]? = some (some v) → AW K Z e σ H (Wn σ) (argsOf ((argsOf (ev G call es e)).bind fun p => .ok (.args (.nm i :: p.1), p.2))) Q → chain (heads K Wn G call (.argN i es)) σ H Q := fun v hv h => by
      refine ⟨v, hv, ih hr E ?_⟩
      cases hq : argsOf (ev G call es e) with
      | bad => rw [hq] at h; exact h.elim
      | ex c => rw [hq] at h; exact h
      | ok p =>
        rw [hq] at h
        obtain ⟨as, e'⟩ := p
        exact fun vs H' Zf S A => h (v :: vs) H' Zf S (.nm hv A)
    cases hs : e[i]? with
    | none => rw [hs] at h; exact h.elim
    | some s =>
      rw [hs] at h
      cases s with
      | sh d => obtain ⟨v, h1, _⟩ := E.sh i d hs; exact main v h1 h
      | ow d => obtain ⟨a, h1, _⟩ := E.ow i d hs; exact main _ h1 h
      | un => exact h.elim
      | mv => exact h.elim
  | consE a es iha ih =>
    intro hr Z e σ H Q E h
    rw [ev] at h
    refine ⟨Z, e, E, ?_⟩
    show EW K Z e σ H (Wn σ) (valOf (ev G call a e)) _
    cases hq : valOf (ev G call a e) with
    | bad => rw [hq] at h; exact h.elim
    | ex c => rw [hq] at h; exact h
    | ok p =>
      obtain ⟨s, e1⟩ := p
      rw [hq] at h
      intro v H1 S r
      refine ih hr S.env ?_
      simp only [Res.bind_ok] at h
      cases hq2 : argsOf (ev G call es e1) with
      | bad => rw [hq2] at h; exact h.elim
      | ex c => rw [hq2] at h; exact fun H' k => h H' (S.keep.trans k fun a _ _ z => S.own a z)
      | ok p =>
        rw [hq2] at h
        obtain ⟨as, e2⟩ := p
        exact fun vs H' Zf T A => h (v :: vs) H' Zf (S.trans T |> fun q => ⟨q.env, q.keep, q.own, fun a z => q.zsub a z, q.new⟩) (AVs.cons_val r S.env T A)
  | _ => intro hr; exact nomatch (show false = true from hr)
end
end RF


namespace RF
open PySem PySem.Spec PyProof.Rows L2
def noStar : Expr → Bool
  | .Starred _ _ => false
  | _ => true
theorem star_cons {e : Expr} {es : List Expr} {env : PySem.Env} (h : noStar e = true) : starEach (e :: es) env = (false, eval e env) :: starEach es env := by
  cases e <;> first | rfl | exact nomatch h
inductive SArgs (X : Cx) : List Expr → List TE → Prop
  | nil : SArgs X [] []
  | cons {e : Expr} {es : List Expr} {t : TE} {ts : List TE} : PE X e t → noStar e = true → SArgs X es ts → SArgs X (e :: es) (t :: ts)
section
variable {X : Cx}
theorem SArgs.pa : ∀ {es : List Expr} {ts : List TE}, SArgs X es ts → PA X es (chain ts)
  | _, _, .nil => pa_nil
  | _, _, .cons h n r => pa_cons h r.pa (star_cons n)
theorem SArgs.plain {pos : Pos} : ∀ {es : List Expr} {ts : List TE}, SArgs X es ts → (backTo pos (starEach es X.env)).any (·.1) = false
  | _, _, .nil => rfl
  | _, _, .cons h n r => by
    rw [star_cons n]
    exact r.plain
theorem SArgs.fst {e : Expr} {es : List Expr} {ts : List TE} (h : SArgs X (e :: es) ts) : noStar e = true := by
  cases h; assumption
theorem SArgs.fst2 {e f : Expr} {es : List Expr} {ts : List TE} (h : SArgs X (e :: f :: es) ts) : noStar f = true := by
  cases h with | cons _ _ r => cases r; assumption
theorem SArgs.snd {pos : Pos} {e : Expr} {es : List Expr} {ts : List TE} (h : SArgs X (e :: es) ts) : (backTo pos (starEach es X.env)).any (·.1) = false := by
  cases h with | cons _ _ r => exact r.plain
theorem SArgs.one {e : Expr} {ts : List TE} (h : SArgs X [e] ts) : ∃ t, ts = [t] ∧ PE X e t := by
  cases h with
  | cons a _ r => cases r; exact ⟨_, rfl, a⟩
theorem SArgs.two {e f : Expr} {ts : List TE} (h : SArgs X [e, f] ts) : ∃ t u, ts = [t, u] ∧ PE X e t ∧ PE X f u := by
  cases h with
  | cons a _ r => obtain ⟨u, rfl, b⟩ := r.one; exact ⟨_, _, rfl, a, b⟩
theorem SArgs.three {e f g : Expr} {ts : List TE} (h : SArgs X [e, f, g] ts) : ∃ t u w, ts = [t, u, w] ∧ PE X e t ∧ PE X f u ∧ PE X g w := by
  cases h with
  | cons a _ r => obtain ⟨u, w, rfl, b⟩ := r.two; exact ⟨_, _, _, rfl, a, b⟩
end
/-- the meaning of an operation upon looked-at values -/
def opn (p : List D → Option Sl) (r : Res (List AV × Env)) : Res (Sl × Env) := r.bind fun q => match look q.2 q.1 with
  | some ds => (ofO (p ds)).bind fun s => .ok (s, q.2)
  | none => .bad
section
variable {G : Sig} {call : Nat → List Sl → Res (Sl × List Sl)} {K : PySem.W.Frag} {Wn : WN} {Z : Addr → Prop} {e : Env} {σ : St} {H : Hp}
theorem chain_mono : ∀ (ts : List TE) (hm : ∀ t ∈ ts, ∀ σ H (Q Q' : VK), (∀ v H', Q v H' → Q' v H') → t σ H Q → t σ H Q') {σ : St} {H : Hp} {Q Q' : List V → Hp → Prop}, (∀ vs H', Q vs H' → Q' vs H') → chain ts σ H Q → chain ts σ H Q'
  | [], _, _, _, _, _, h, q => h _ _ q
  | t :: ts, hm, σ, H, Q, Q', h, q => hm t List.mem_cons_self σ H _ _ (fun v H' q => chain_mono ts (fun t ht => hm t (List.mem_cons_of_mem _ ht)) (fun vs H' q => h _ _ q) q) q
/-- behind an operation the value is as it should be -/
theorem ppost_step {Zf : Addr → Prop} {e1 : Env} {H1 H2 : Hp} {v : V} {s : Sl} (S : Step K Z Zf e σ H e1 H1) (P : PPost K (Free Z e1 σ) H1 H2 v s) : Step K Z (Zp Z v s) e σ H e1 H2 ∧ VOk K Z e1 σ H2 v s := by
  have S1 : Step K Z Z e σ H e1 H1 := S.down
  have S2 : Step K Z Z e σ H e1 H2 := ⟨S1.env.grow P.grow, S1.keep.trans (M' := fun _ => False) (fun a o x _ => P.grow a o x) (fun _ _ _ z => z.elim), S1.own, S1.zsub, S1.new⟩
  cases s with
  | sh d => exact ⟨S2.zsh, P.val⟩
  | ow d =>
    obtain ⟨a, rfl, na, h⟩ := P.val
    have fa : Free Z e1 σ a := S1.env.new_free na
    have E3 : EnvOk K (fun b => Z b ∨ b = a) e1 σ H2 := by
      have q := S1.env
      -- nothing that stood at H1 is a
      refine ⟨q.len, fun j d' k => ?_, fun j d' k => ?_, q.inj, fun b z => ?_⟩
      · obtain ⟨w, h1, h2⟩ := q.sh j d' k
        exact ⟨w, h1, h2.mono fun b o f x => ⟨⟨fun z => z.elim f.1 fun y => (by rw [y, na] at x; cases x), f.2⟩, P.grow b o x⟩⟩
      · obtain ⟨b, h1, h2, h3⟩ := q.ow j d' k
        exact ⟨b, h1, fun z => z.elim h2 fun y => fa.2 ⟨j, d', k, y ▸ h1⟩, h3.mono (fun c o f x => ⟨⟨fun z => z.elim f.1 fun y => (by rw [y, na] at x; cases x), f.2⟩, P.grow c o x⟩) fun o x => P.grow b o x⟩
      · rcases z with z | rfl
        · obtain ⟨o, x⟩ := q.dom b z
          exact ⟨o, P.grow b o x⟩
        · obtain ⟨o, x, _⟩ := h.some
          exact ⟨o, x⟩
    refine ⟨⟨E3.less' fun b => zp_iff, S2.keep, S2.own, fun b z => .inl z, fun b z => ?_⟩, a, rfl, fa.1, fa.2, h.mono (fun b o f x => ⟨⟨fun z => (zp_iff.mp z).elim f.1.1 f.2, f.1.2⟩, x⟩) fun _ x => x⟩
    rcases zp_iff.mp z with z | rfl
    · exact .inl z
    · exact .inr (S1.none_back na)
  | un => exact P.val.elim
  | mv => exact P.val.elim
theorem heads_mono : ∀ (ie : I) (t : TE), t ∈ heads K Wn G call ie → ∀ σ H (Q Q' : VK), (∀ v H', Q v H' → Q' v H') → t σ H Q → t σ H Q' := by
  intro ie
  induction ie with
  | argN i es ih =>
    intro t ht σ H Q Q' h q
    rcases List.mem_cons.mp ht with rfl | ht
    · obtain ⟨v, h1, h2⟩ := q; exact ⟨v, h1, h _ _ h2⟩
    · exact ih t ht σ H Q Q' h q
  | consE a es _ ih =>
    intro t ht σ H Q Q' h q
    rcases List.mem_cons.mp ht with rfl | ht
    · obtain ⟨Z, e, E, q⟩ := q
      refine ⟨Z, e, E, ?_⟩
      show EW K Z e σ H (Wn σ) (valOf (ev G call a e)) Q'
      have q' : EW K Z e σ H (Wn σ) (valOf (ev G call a e)) Q := q
      cases hr : valOf (ev G call a e) with
      | bad => rw [hr] at q'; exact q'
      | ex c => rw [hr] at q'; exact q'
      | ok p => rw [hr] at q'; exact fun v H' S r => h _ _ (q' v H' S r)
    · exact ih t ht σ H Q Q' h q
  | _ => intro t ht; exact absurd ht (by simp [heads])
/-- an operation upon a row of arguments -/
theorem aw_opn {p : List D → Option Sl} {ie : I} {Q : VK} (hr : isRow ie = true) (E : EnvOk K Z e σ H) (h : EW K Z e σ H (Wn σ) (opn p (argsOf (ev G call ie e))) Q) :
    chain (heads K Wn G call ie) σ H (fun vs H' => rPn K p vs H' Q) := by
  refine aw_chain ie hr E ?_
  unfold opn at h
  cases hq : argsOf (ev G call ie e) with
  | bad => rw [hq] at h; exact h.elim
  | ex c => rw [hq] at h; exact h
  | ok q =>
    obtain ⟨as, e1⟩ := q
    rw [hq] at h
    simp only [Res.bind_ok] at h
    intro vs H1 Zf S A
    cases hl : look e1 as with
    | none => rw [hl] at h; exact h.elim
    | some ds =>
      rw [hl] at h
      simp only at h
      cases hp : p ds with
      | none => rw [hp] at h; exact h.elim
      | some s =>
        rw [hp] at h
        refine ⟨ds, s, Free Z e1 σ, hp, fun a na => S.down.env.new_free na, A.args S.env S.zsub hl, fun v H2 P => ?_⟩
        obtain ⟨T, r⟩ := ppost_step S P
        exact h v H2 T r
end
def on1 (p : D → Option Sl) : List D → Option Sl
  | [a] => p a
  | _ => none
def on2 (p : D → D → Option Sl) : List D → Option Sl
  | [a, b] => p a b
  | _ => none
section
variable {K : PySem.W.Frag} {x y : V} {H : Hp} {Q : VK}
theorem rPn_two {p : D → D → Option Sl} (h : rPn K (on2 p) [x, y] H Q) : rP2 K p x y H Q := by
  obtain ⟨ds, s, ok, hp, hn, ha, k⟩ := h
  cases ha with
  | cons a1 r => cases r with
    | cons a2 r => cases r; exact ⟨_, _, s, ok, hp, hn, a1, a2, k⟩
theorem rPn_one {p : D → Option Sl} (h : rPn K (on1 p) [x] H Q) : rP1 K p x H Q := by
  obtain ⟨ds, s, ok, hp, hn, ha, k⟩ := h
  cases ha with
  | cons a1 r => cases r; exact ⟨_, s, ok, hp, hn, a1, k⟩
end
section
variable {X : Cx} {G : Sig} {call : Nat → List Sl → Res (Sl × List Sl)} {Wn : WN} {ie : I} {pos : Pos} {a b : Expr} {es : List Expr}
theorem val_bop {op : Operator} {e : Env} : valOf (ev G call (.bop op ie) e) = opn (on2 (pBop op)) (argsOf (ev G call ie e)) := by
  rw [ev]
  cases argsOf (ev G call ie e) with
  | bad => rfl
  | ex c => rfl
  | ok q =>
    obtain ⟨as, e1⟩ := q
    simp only [opn, Res.bind_ok]
    cases look e1 as with
    | none => rfl
    | some ds => match ds with
      | [] => rfl
      | [_] => rfl
      | [x, y] => simp only [on2]; cases pBop op x y <;> rfl
      | _ :: _ :: _ :: _ => rfl
theorem val_cop {op : CmpOp} {e : Env} : valOf (ev G call (.cop op ie) e) = opn (on2 (pCopS op)) (argsOf (ev G call ie e)) := by
  rw [ev]
  cases argsOf (ev G call ie e) with
  | bad => rfl
  | ex c => rfl
  | ok q =>
    obtain ⟨as, e1⟩ := q
    simp only [opn, Res.bind_ok]
    cases look e1 as with
    | none => rfl
    | some ds => match ds with
      | [] => rfl
      | [_] => rfl
      | [x, y] => simp only [on2, pCopS]; cases pCop op x y <;> rfl
      | _ :: _ :: _ :: _ => rfl
theorem val_uop {op : UnaryOp} {e : Env} : valOf (ev G call (.uop op ie) e) = opn (on1 (pUop op)) (argsOf (ev G call ie e)) := by
  rw [ev]
  cases argsOf (ev G call ie e) with
  | bad => rfl
  | ex c => rfl
  | ok q =>
    obtain ⟨as, e1⟩ := q
    simp only [opn, Res.bind_ok]
    cases look e1 as with
    | none => rfl
    | some ds => match ds with
      | [] => rfl
      | [x] => simp only [on1]; cases pUop op x <;> rfl
      | _ :: _ :: _ => rfl
theorem val_ixe {e : Env} : valOf (ev G call (.ixe ie) e) = opn (on2 pIx) (argsOf (ev G call ie e)) := by
  rw [ev]
  cases argsOf (ev G call ie e) with
  | bad => rfl
  | ex c => rfl
  | ok q =>
    obtain ⟨as, e1⟩ := q
    simp only [opn, Res.bind_ok]
    cases look e1 as with
    | none => rfl
    | some ds => match ds with
      | [] => rfl
      | [_] => rfl
      | [x, y] => simp only [on2]; cases pIx x y <;> rfl
      | _ :: _ :: _ :: _ => rfl
theorem val_blt {b : B} {e : Env} : valOf (ev G call (.blt b ie) e) = opn (pBlt b) (argsOf (ev G call ie e)) := by
  rw [ev]
  cases argsOf (ev G call ie e) with
  | bad => rfl
  | ex c => rfl
  | ok q =>
    obtain ⟨as, e1⟩ := q
    simp only [opn, Res.bind_ok]
    cases look e1 as with
    | none => rfl
    | some ds => cases hb : pBlt b ds <;> simp only [hb] <;> rfl
/-- the reading of an expression by its I -/
abbrev rE (X : Cx) (Wn : WN) (G : Sig) (call : Nat → List Sl → Res (Sl × List Sl)) (ie : I) : TE := tE X.K Wn (fun e => valOf (ev G call ie e))
theorem e_bop {op : Operator} (hr : isRow ie = true) (h : SArgs X [a, b] (heads X.K Wn G call ie)) : PE X (.BinOp a op b pos) (rE X Wn G call (.bop op ie)) := by
  obtain ⟨ta, tb, e, ha, hb⟩ := h.two
  refine pe_imp (pe_op (bop_ok op) ha hb) fun σ H Q ⟨Z, en, E, q⟩ => ?_
  have q' : EW X.K Z en σ H (Wn σ) (valOf (ev G call (.bop op ie) en)) Q := q
  rw [val_bop] at q'
  have c := aw_opn hr E q'
  rw [e] at c
  have m := fun t ht => heads_mono (K := X.K) (Wn := Wn) (G := G) (call := call) ie t (e ▸ ht)
  exact m ta (by simp) _ _ _ _ (fun x H1 q => m tb (by simp) _ _ _ _ (fun y H2 q => rPn_two q) q) c
theorem e_cop {op : CmpOp} (hu : X.A.units + 65 < cLine) (hm : behindInMarks op b = false) (hr : isRow ie = true) (h : SArgs X [a, b] (heads X.K Wn G call ie)) : PE X (.Compare a [op] [b] pos) (rE X Wn G call (.cop op ie)) := by
  obtain ⟨ta, tb, e, ha, hb⟩ := h.two
  refine pe_imp (pe_cmpR (cop_ok hu op) ha hb hm) fun σ H Q ⟨Z, en, E, q⟩ => ?_
  have q' : EW X.K Z en σ H (Wn σ) (valOf (ev G call (.cop op ie) en)) Q := q
  rw [val_cop] at q'
  have c := aw_opn hr E q'
  rw [e] at c
  have m := fun t ht => heads_mono (K := X.K) (Wn := Wn) (G := G) (call := call) ie t (e ▸ ht)
  exact m ta (by simp) _ _ _ _ (fun x H1 q => m tb (by simp) _ _ _ _ (fun y H2 q => rPn_two q) q) c
theorem e_uop {op : UnaryOp} (hr : isRow ie = true) (h : SArgs X [a] (heads X.K Wn G call ie)) : PE X (.UnaryOp op a pos) (rE X Wn G call (.uop op ie)) := by
  obtain ⟨ta, e, ha⟩ := h.one
  refine pe_imp (pe_un (uop_ok op) ha) fun σ H Q ⟨Z, en, E, q⟩ => ?_
  have q' : EW X.K Z en σ H (Wn σ) (valOf (ev G call (.uop op ie) en)) Q := q
  rw [val_uop] at q'
  have c := aw_opn hr E q'
  rw [e] at c
  have m := fun t ht => heads_mono (K := X.K) (Wn := Wn) (G := G) (call := call) ie t (e ▸ ht)
  exact m ta (by simp) _ _ _ _ (fun x H1 q => rPn_one q) c
theorem e_ixe (hs : PlainIx b) (hr : isRow ie = true) (h : SArgs X [a, b] (heads X.K Wn G call ie)) : PE X (.Subscript a b pos) (rE X Wn G call (.ixe ie)) := by
  obtain ⟨ta, tb, e, ha, hb⟩ := h.two
  refine pe_imp (pe_ix ix_ok ha hb hs) fun σ H Q ⟨Z, en, E, q⟩ => ?_
  have q' : EW X.K Z en σ H (Wn σ) (valOf (ev G call (.ixe ie) en)) Q := q
  rw [val_ixe] at q'
  have c := aw_opn hr E q'
  rw [e] at c
  have m := fun t ht => heads_mono (K := X.K) (Wn := Wn) (G := G) (call := call) ie t (e ▸ ht)
  exact m ta (by simp) _ _ _ _ (fun x H1 q => m tb (by simp) _ _ _ _ (fun y H2 q => rPn_two q) q) c
theorem e_blt {x : Str} {bb : B} {p : Pos} {a : Expr} (hc : X.calm = true) (hgu : X.A.guards = some []) (hu : X.A.units + 65 < cLine) (hx : x = bb.name) (hg : Gl X x) (hm : X.mg x = none) (hr : isRow ie = true) (h : SArgs X (a :: es) (heads X.K Wn G call ie)) : PE X (.Call (.Name x p) (a :: es) [] pos) (rE X Wn G call (.blt bb ie)) := by
  subst hx
  have na := h.fst
  have pl := h.snd (pos := pos)
  have step : ∀ σ H Q, rE X Wn G call (.blt bb ie) σ H Q → tCB (rPn X.K (pBlt bb)) (chain (heads X.K Wn G call ie)) σ H Q := fun σ H Q ⟨Z, en, E, q⟩ => by
    have q' : EW X.K Z en σ H (Wn σ) (valOf (ev G call (.blt bb ie) en)) Q := q
    rw [val_blt] at q'
    exact aw_opn hr E q'
  have nm := bb.name_ok
  have bt := bb.boot
  have ok := blt_ok (X := X) hc hgu (Nat.lt_of_succ_lt hu) bb
  cases bb <;> first
    | exact pe_imp (pe_callB ok hg hm bt h.pa nm.1 nm.2 (star_cons na) pl) step
    | exact pe_imp (pe_callTy ok hg hm bt h.pa nm.1 nm.2 (star_cons na) pl) step
theorem val_sos {e : Env} : valOf (ev G call (.sos ie) e) = opn pSos (argsOf (ev G call ie e)) := by
  rw [ev]
  cases argsOf (ev G call ie e) with
  | bad => rfl
  | ex c => rfl
  | ok q =>
    obtain ⟨as, e1⟩ := q
    simp only [opn, Res.bind_ok]
    cases look e1 as with
    | none => rfl
    | some ds => cases hb : pSos ds <;> simp only [hb] <;> rfl
theorem e_sos {x y : Str} {p1 p2 p3 : Pos} {a : Expr} (hc : X.calm = true) (hx : x = "sorted") (hy : y = "set") (gx : Gl X x) (gy : Gl X y) (mx : X.mg x = none) (my : X.mg y = none) (hr : isRow ie = true) (h : SArgs X [a] (heads X.K Wn G call ie)) :
    PE X (.Call (.Name x p1) [.Call (.Name y p2) [a] [] p3] [] pos) (rE X Wn G call (.sos ie)) := by
  subst hx hy
  have inner := pe_callTy (pos := p3) (p := p2) (cr_setIL hc) gy my (by decide +kernel) h.pa (by decide +kernel) (by decide +kernel) (star_cons h.fst) h.snd
  have row : SArgs X [_] [_] := .cons inner rfl .nil
  refine pe_imp (pe_callB (cr_sortedSet hc) gx mx (by decide +kernel) row.pa (by decide +kernel) (by decide +kernel) (star_cons rfl) row.snd) fun σ H Q ⟨Z, en, E, q⟩ => ?_
  have q' : EW X.K Z en σ H (Wn σ) (valOf (ev G call (.sos ie) en)) Q := q
  rw [val_sos] at q'
  exact chain_mono _ (fun t ht => heads_mono ie t ht) (fun vs H' q => sos_ok X.w q) (aw_opn hr E q')
/-! ### displays -/
theorem ew_display {mk : List D → Res Sl} {ob : List V → HO} {Z : Addr → Prop} {en : Env} {σ : St} {H : Hp} {Q : VK} (hr : isRow ie = true) (E : EnvOk X.K Z en σ H)
    (h : EW X.K Z en σ H (Wn σ) ((argsOf (ev G call ie en)).bind fun p => (ofO (vals p.1)).bind fun ds => if ds.length ≤ sizeLine then (mk ds).bind fun s => .ok (s, p.2) else .bad) Q)
    (post : ∀ {ok : Addr → Prop} {H' : Hp} {a : Addr} {vs : List V} {ds : List D} {s : Sl}, mk ds = .ok s → New ok H' → H' a = none → Reps X.K ok H' vs ds → PPost X.K ok H' (upd H' a (ob vs)) (.ref a) s)
    (mok : ∀ ds, ∃ s, mk ds = .ok s) :
    chain (heads X.K Wn G call ie) σ H (fun vs H' => vs.length ≤ sizeLine ∧ ∀ p, H' p = none → Q (.ref p) (upd H' p (ob vs))) := by
  refine aw_chain ie hr E ?_
  cases hq : argsOf (ev G call ie en) with
  | bad => rw [hq] at h; exact h.elim
  | ex c => rw [hq] at h; exact h
  | ok q =>
    obtain ⟨as, e1⟩ := q
    rw [hq] at h
    simp only [Res.bind_ok] at h
    intro vs H1 Zf S A
    cases hl : vals as with
    | none => rw [hl] at h; exact h.elim
    | some ds =>
      rw [hl] at h
      simp only [ofO, Res.bind_ok] at h
      by_cases hz : ds.length ≤ sizeLine
      · rw [if_pos hz] at h
        obtain ⟨s, hs⟩ := mok ds
        rw [hs] at h
        have R := A.reps S.zsub hl
        refine ⟨by rw [R.length]; exact hz, fun p np => ?_⟩
        obtain ⟨T, r⟩ := ppost_step S (post hs (fun a na => S.down.env.new_free na) np R)
        exact h _ _ T r
      · rw [if_neg hz] at h; exact h.elim
theorem e_tup {k : Nat} (hr : isRow ie = true) (h : SArgs X es (heads X.K Wn G call ie)) : PE X (.Tuple es k pos) (rE X Wn G call (.tupE ie)) := by
  refine pe_imp (pe_tup h.pa) fun σ H Q ⟨Z, en, E, q⟩ => ?_
  have q' : EW X.K Z en σ H (Wn σ) (valOf (ev G call (.tupE ie) en)) Q := q
  refine ew_display (mk := fun ds => .ok (.sh (.tup ds))) (ob := .tup) hr E ?_ (fun e hn na r => by cases e; exact ppost_tup hn na r) fun ds => ⟨_, rfl⟩
  rw [ev] at q'
  cases hq : argsOf (ev G call ie en) with
  | bad => rw [hq] at q'; exact q'
  | ex c => rw [hq] at q'; exact q'
  | ok p =>
    rw [hq] at q'
    simp only [Res.bind_ok] at q' ⊢
    cases hv : vals p.1 with
    | none => rw [hv] at q'; exact q'
    | some ds =>
      rw [hv] at q'
      simp only [ofO, Res.bind_ok] at q' ⊢
      by_cases hz : ds.length ≤ sizeLine
      · rw [if_pos hz] at q' ⊢; exact q'
      · rw [if_neg hz] at q' ⊢; exact q'
theorem e_lst (hr : isRow ie = true) (h : SArgs X es (heads X.K Wn G call ie)) : PE X (.List es pos) (rE X Wn G call (.lstE ie)) := by
  refine pe_imp (pe_lst h.pa) fun σ H Q ⟨Z, en, E, q⟩ => ?_
  have q' : EW X.K Z en σ H (Wn σ) (valOf (ev G call (.lstE ie) en)) Q := q
  refine ew_display (mk := fun ds => .ok (.ow (.lst ds))) (ob := .lst) hr E ?_ (fun e hn na r => by cases e; exact ppost_lst na r) fun ds => ⟨_, rfl⟩
  rw [ev] at q'
  cases hq : argsOf (ev G call ie en) with
  | bad => rw [hq] at q'; exact q'
  | ex c => rw [hq] at q'; exact q'
  | ok p =>
    rw [hq] at q'
    simp only [Res.bind_ok] at q' ⊢
    cases hv : vals p.1 with
    | none => rw [hv] at q'; exact q'
    | some ds =>
      rw [hv] at q'
      simp only [ofO, Res.bind_ok] at q' ⊢
      by_cases hz : ds.length ≤ sizeLine
      · rw [if_pos hz] at q' ⊢; exact q'
      · rw [if_neg hz] at q' ⊢; exact q'
end
end RF


namespace RF
open PySem PySem.Spec PyProof.Rows L2
theorem arg_tru {K : PySem.W.Frag} {ok : Addr → Prop} {H : Hp} {v : V} {d : D} {k : Bool} (h : Arg K ok H v d) (e : d.truth = some k) : TruV K v H k := by
  cases d with
  | non => cases e; cases h.non; rfl
  | bl b => cases e; cases h.bl; rfl
  | int b => cases e; cases h.int; rfl
  | str s =>
    cases h.str
    simp only [D.truth] at e
    split at e
    · rename_i hz; cases e; exact ⟨hz, rfl⟩
    · cases e
  | tup ds =>
    cases e
    obtain ⟨a, xs, rfl, h1, h2⟩ := h.tup
    refine .inr (.inl ⟨xs, h1, ?_⟩)
    cases h2 <;> rfl
  | lst ds =>
    cases e
    obtain ⟨a, xs, rfl, h1, h2⟩ := h.lst
    refine .inl ⟨xs, h1, ?_⟩
    cases h2 <;> rfl
  | _ => cases e
section
variable {G : Sig} {call : Nat → List Sl → Res (Sl × List Sl)} {K : PySem.W.Frag} {Wn : WN} {Z : Addr → Prop} {e : Env} {σ : St} {H : Hp} {Wx : Str → Hp → Prop}
theorem VOk.sl {v : V} {s : Sl} (r : VOk K Z e σ H v s) : ∃ d, s.d = some d := by
  cases s with
  | sh d => exact ⟨d, rfl⟩
  | ow d => exact ⟨d, rfl⟩
  | un => exact r.elim
  | mv => exact r.elim
/-- one step, then another weakest precondition -/
theorem ew_bind {f : Sl × Env → Res (Sl × Env)} {r : Res (Sl × Env)} {Q : VK} {R : VK} (h : EW K Z e σ H Wx (r.bind f) Q)
    (k : ∀ s e1 v H1, Step K Z (Zp Z v s) e σ H e1 H1 → VOk K Z e1 σ H1 v s → EW K Z e1 σ H1 Wx (f (s, e1)) Q → R v H1) : EW K Z e σ H Wx r R := by
  cases r with
  | bad => exact h
  | ex c => exact h
  | ok p =>
    obtain ⟨s, e1⟩ := p
    intro v H1 S r
    refine k s e1 v H1 S r ?_
    have h' : EW K Z e σ H Wx (f (s, e1)) Q := h
    cases hf : f (s, e1) with
    | bad => rw [hf] at h'; exact h'
    | ex c => rw [hf] at h'; exact fun H' q => h' H' (S.keep.trans q fun a _ _ z => S.own a z)
    | ok q =>
      rw [hf] at h'
      exact fun u H2 T r2 => h' u H2 (S.down.trans T) r2
theorem ew_bindT {f : Sl × Env → Res (Bool × Env)} {r : Res (Sl × Env)} {Q : Bool → Hp → Prop} {R : VK} (h : TW K Z e σ H Wx (r.bind f) Q)
    (k : ∀ s e1 v H1, Step K Z (Zp Z v s) e σ H e1 H1 → VOk K Z e1 σ H1 v s → TW K Z e1 σ H1 Wx (f (s, e1)) Q → R v H1) : EW K Z e σ H Wx r R := by
  cases r with
  | bad => exact h
  | ex c => exact h
  | ok p =>
    obtain ⟨s, e1⟩ := p
    intro v H1 S r
    refine k s e1 v H1 S r ?_
    have h' : TW K Z e σ H Wx (f (s, e1)) Q := h
    cases hf : f (s, e1) with
    | bad => rw [hf] at h'; exact h'
    | ex c => rw [hf] at h'; exact fun H' q => h' H' (S.keep.trans q fun a _ _ z => S.own a z)
    | ok q =>
      rw [hf] at h'
      exact fun H2 T => h' H2 (S.down.trans T)
theorem tw_bind {f : Bool × Env → Res (Sl × Env)} {r : Res (Bool × Env)} {Q : VK} {R : Bool → Hp → Prop} (h : EW K Z e σ H Wx (r.bind f) Q)
    (k : ∀ b e1 H1, Step K Z Z e σ H e1 H1 → EW K Z e1 σ H1 Wx (f (b, e1)) Q → R b H1) : TW K Z e σ H Wx r R := by
  cases r with
  | bad => exact h
  | ex c => exact h
  | ok p =>
    obtain ⟨s, e1⟩ := p
    intro H1 S
    refine k s e1 H1 S ?_
    have h' : EW K Z e σ H Wx (f (s, e1)) Q := h
    cases hf : f (s, e1) with
    | bad => rw [hf] at h'; exact h'
    | ex c => rw [hf] at h'; exact fun H' q => h' H' (S.keep.trans q fun a _ _ z => S.own a z)
    | ok q =>
      rw [hf] at h'
      exact fun u H2 T r2 => h' u H2 (S.trans T) r2
theorem tw_bindT {f : Bool × Env → Res (Bool × Env)} {r : Res (Bool × Env)} {Q : Bool → Hp → Prop} {R : Bool → Hp → Prop} (h : TW K Z e σ H Wx (r.bind f) Q)
    (k : ∀ b e1 H1, Step K Z Z e σ H e1 H1 → TW K Z e1 σ H1 Wx (f (b, e1)) Q → R b H1) : TW K Z e σ H Wx r R := by
  cases r with
  | bad => exact h
  | ex c => exact h
  | ok p =>
    obtain ⟨s, e1⟩ := p
    intro H1 S
    refine k s e1 H1 S ?_
    have h' : TW K Z e σ H Wx (f (s, e1)) Q := h
    cases hf : f (s, e1) with
    | bad => rw [hf] at h'; exact h'
    | ex c => rw [hf] at h'; exact fun H' q => h' H' (S.keep.trans q fun a _ _ z => S.own a z)
    | ok q =>
      rw [hf] at h'
      exact fun H2 T => h' H2 (S.trans T)
/-- a value as an argument, its address let go -/
theorem VOk.arg {v : V} {s : Sl} {d : D} (r : VOk K Z e σ H v s) (hd : s.d = some d) : Arg K (Free Z e σ) H v d := .inl (r.down hd)
end
section
variable {X : Cx} {G : Sig} {call : Nat → List Sl → Res (Sl × List Sl)} {Wn : WN} {ie ja jb jc : I} {pos : Pos} {a b c : Expr} {es : List Expr}
abbrev rT (X : Cx) (Wn : WN) (G : Sig) (call : Nat → List Sl → Res (Sl × List Sl)) (ie : I) : TT := tT X.K Wn (fun e => tstOf (ev G call ie e))
/-! ### tests -/
theorem t_tn {i : Nat} {x : Str} {p : Pos} (hN : X.N[i]? = some x) (hv : Vis X.env.scope x) (hd : (x == ("__debug__" : Str)) = false) (hcd : (x == ("__classdict__" : Str)) = false) : PT X (.Name x p) (rT X Wn G call (.tn i)) := by
  refine pt_imp (pt_truth (pe_var hN hv hd hcd) fun _ => rfl) fun σ H Q ⟨Z, en, E, q⟩ => ?_
  have q' : TW X.K Z en σ H (Wn σ) (tstOf (ev G call (.tn i) en)) Q := q
  rw [ev] at q'
  cases hs : en[i]? with
  | none => rw [hs] at q'; exact q'.elim
  | some s =>
    rw [hs] at q'
    cases s with
    | un => exact q'.elim
    | mv => exact q'.elim
    | sh d =>
      obtain ⟨v, h1, h2⟩ := E.sh i d hs
      simp only [Sl.d, Option.bind_some] at q'
      cases ht : d.truth with
      | none => rw [ht] at q'; exact q'.elim
      | some k =>
        rw [ht] at q'
        exact ⟨v, h1, k, arg_tru (.inl h2) ht, q' H (Step.refl E)⟩
    | ow d =>
      obtain ⟨a, h1, _, h2⟩ := E.ow i d hs
      simp only [Sl.d, Option.bind_some] at q'
      cases ht : d.truth with
      | none => rw [ht] at q'; exact q'.elim
      | some k =>
        rw [ht] at q'
        exact ⟨_, h1, k, arg_tru (.inr ⟨a, rfl, h2⟩) ht, q' H (Step.refl E)⟩
theorem t_tv (ha : PE X a (rE X Wn G call ja)) (he : ∀ whole, isTrue a X.env whole = (do let v ← whole; standAt a.pos; holding [v] (truthy v))) : PT X a (rT X Wn G call (.tv ja)) := by
  refine pt_imp (pt_truth ha he) fun σ H Q ⟨Z, en, E, q⟩ => ?_
  refine ⟨Z, en, E, ?_⟩
  have q' : TW X.K Z en σ H (Wn σ) (tstOf (ev G call (.tv ja) en)) Q := q
  rw [ev] at q'
  have q2 : TW X.K Z en σ H (Wn σ) ((valOf (ev G call ja en)).bind fun p => (ofO (p.1.d.bind D.truth)).bind fun b => .ok (b, p.2)) Q := by
    cases hr : valOf (ev G call ja en) with
    | bad => rw [hr] at q'; exact q'
    | ex c => rw [hr] at q'; exact q'
    | ok p =>
      rw [hr] at q'
      simp only [Res.bind_ok] at q' ⊢
      cases hd : p.1.d.bind D.truth with
      | none => rw [hd] at q'; exact q'
      | some b => rw [hd] at q'; exact q'
  refine ew_bindT q2 fun s e1 v H1 S r q => ?_
  obtain ⟨d, hd⟩ := r.sl
  simp only [hd, Option.bind_some] at q
  cases ht : d.truth with
  | none => rw [ht] at q; exact q.elim
  | some k =>
    rw [ht] at q
    exact ⟨k, arg_tru (r.arg hd) ht, q H1 (Step.refl S.env.let_go)⟩
theorem t_not (ha : PT X a (rT X Wn G call ja)) : PT X (.UnaryOp .Not a pos) (rT X Wn G call (.tnot ja)) := by
  refine pt_imp (pt_not ha) fun σ H Q ⟨Z, en, E, q⟩ => ⟨Z, en, E, ?_⟩
  have q' : TW X.K Z en σ H (Wn σ) (tstOf (ev G call (.tnot ja) en)) Q := q
  rw [ev] at q'
  show TW X.K Z en σ H (Wn σ) (tstOf (ev G call ja en)) _
  cases hr : tstOf (ev G call ja en) with
  | bad => rw [hr] at q'; exact q'
  | ex c => rw [hr] at q'; exact q'
  | ok p => rw [hr] at q'; exact q'
theorem t_and (ha : PT X a (rT X Wn G call ja)) (hb : PW X (.BoolOp .And (b :: es) pos) (rT X Wn G call jb)) : PW X (.BoolOp .And (a :: b :: es) pos) (rT X Wn G call (.tand ja jb)) := by
  refine ⟨fun whole pins s σ H Q I h => (pw_and ha hb).run whole pins s σ H Q I ?_⟩
  obtain ⟨Z, en, E, q⟩ := h
  refine ⟨Z, en, E, ?_⟩
  have q' : TW X.K Z en σ H (Wn σ) (tstOf (ev G call (.tand ja jb) en)) Q := q
  rw [ev] at q'
  show TW X.K Z en σ H (Wn σ) (tstOf (ev G call ja en)) _
  have q2 : TW X.K Z en σ H (Wn σ) ((tstOf (ev G call ja en)).bind fun p => if p.1 = true then tstOf (ev G call jb p.2) else .ok (false, p.2)) Q := by
    cases hr : tstOf (ev G call ja en) with
    | bad => rw [hr] at q'; exact q'
    | ex c => rw [hr] at q'; exact q'
    | ok p =>
      rw [hr] at q'
      obtain ⟨b, e1⟩ := p
      simp only [Res.bind_ok] at q' ⊢
      cases b with
      | false => exact q'
      | true =>
        simp only [if_true] at q' ⊢
        cases hb2 : tstOf (ev G call jb e1) with
        | bad => rw [hb2] at q'; exact q'
        | ex c => rw [hb2] at q'; exact q'
        | ok p => rw [hb2] at q'; exact q'
  refine tw_bindT q2 fun k e1 H1 S q => ?_
  cases k with
  | false => exact q H1 (Step.refl S.env)
  | true => exact ⟨Z, e1, S.env, q⟩
theorem t_or (ha : PT X a (rT X Wn G call ja)) (hb : PW X (.BoolOp .Or (b :: es) pos) (rT X Wn G call jb)) : PW X (.BoolOp .Or (a :: b :: es) pos) (rT X Wn G call (.tor ja jb)) := by
  refine ⟨fun whole pins s σ H Q I h => (pw_or ha hb).run whole pins s σ H Q I ?_⟩
  obtain ⟨Z, en, E, q⟩ := h
  refine ⟨Z, en, E, ?_⟩
  have q' : TW X.K Z en σ H (Wn σ) (tstOf (ev G call (.tor ja jb) en)) Q := q
  rw [ev] at q'
  show TW X.K Z en σ H (Wn σ) (tstOf (ev G call ja en)) _
  have q2 : TW X.K Z en σ H (Wn σ) ((tstOf (ev G call ja en)).bind fun p => if p.1 = true then .ok (true, p.2) else tstOf (ev G call jb p.2)) Q := by
    cases hr : tstOf (ev G call ja en) with
    | bad => rw [hr] at q'; exact q'
    | ex c => rw [hr] at q'; exact q'
    | ok p =>
      rw [hr] at q'
      obtain ⟨b, e1⟩ := p
      simp only [Res.bind_ok] at q' ⊢
      cases b with
      | true => exact q'
      | false =>
        simp only [Bool.false_eq_true, if_false] at q' ⊢
        cases hb2 : tstOf (ev G call jb e1) with
        | bad => rw [hb2] at q'; exact q'
        | ex c => rw [hb2] at q'; exact q'
        | ok p => rw [hb2] at q'; exact q'
  refine tw_bindT q2 fun k e1 H1 S q => ?_
  cases k with
  | true => exact q H1 (Step.refl S.env)
  | false => exact ⟨Z, e1, S.env, q⟩
theorem ev_tcp {op : CmpOp} {e : Env} : ev G call (.tcp op ie) e = ev G call (.cop op ie) e := by rw [ev, ev]
theorem ev_tch {o o2 : CmpOp} {e : Env} : ev G call (.tch o o2 ja jb jc) e = ev G call (.chn o o2 ja jb jc) e := by rw [ev, ev]
/-- a test by a value that is a bool -/
theorem tst_val {σ : St} {H : Hp} {Q : Bool → Hp → Prop} {Z : Addr → Prop} {en : Env} {r : R} (hb : ∀ s e1, valOf r = .ok (s, e1) → ∃ b, s = .sh (.bl b)) (q : TW X.K Z en σ H (Wn σ) (tstOf r) Q) :
    EW X.K Z en σ H (Wn σ) (valOf r) (fun x H' => ∃ k, x = .bl k ∧ Q k H') := by
  cases r with
  | bad => exact q
  | ex c => exact q
  | ok p =>
    obtain ⟨o, e1⟩ := p
    cases o with
    | val s =>
      obtain ⟨b, rfl⟩ := hb s e1 rfl
      intro v H1 S r
      have r' : Rep X.K (Free Z e1 σ) H1 v (.bl b) := r
      cases r'
      exact ⟨b, rfl, q H1 S.down⟩
    | _ => exact q.elim
theorem t_cop {op : CmpOp} (hu : X.A.units + 65 < cLine) (hm : behindInMarks op b = false) (hr : isRow ie = true) (h : SArgs X [a, b] (heads X.K Wn G call ie)) : PT X (.Compare a [op] [b] pos) (rT X Wn G call (.tcp op ie)) := by
  obtain ⟨ta, tb, e, ha, hb⟩ := h.two
  refine pt_imp (pt_cmpR (cop_ok hu op) ha hb hm) fun σ H Q ⟨Z, en, E, q⟩ => ?_
  have q' : TW X.K Z en σ H (Wn σ) (tstOf (ev G call (.tcp op ie) en)) Q := q
  rw [ev_tcp] at q'
  have q2 := tst_val (X := X) (fun s e1 hv => ?_) q'
  · rw [val_cop] at q2
    have c := aw_opn hr E q2
    rw [e] at c
    have m := fun t ht => heads_mono (K := X.K) (Wn := Wn) (G := G) (call := call) ie t (e ▸ ht)
    exact m ta (by simp) _ _ _ _ (fun x H1 q => m tb (by simp) _ _ _ _ (fun y H2 q => rPn_two q) q) c
  · rw [val_cop] at hv
    unfold opn at hv
    cases hq : argsOf (ev G call ie en) with
    | bad => rw [hq] at hv; cases hv
    | ex c => rw [hq] at hv; cases hv
    | ok p =>
      rw [hq] at hv
      simp only [Res.bind_ok] at hv
      cases hl : look p.2 p.1 with
      | none => rw [hl] at hv; cases hv
      | some ds =>
        rw [hl] at hv
        simp only at hv
        cases hp : on2 (pCopS op) ds with
        | none => rw [hp] at hv; cases hv
        | some s' =>
          rw [hp] at hv
          cases hv
          match ds, hp with
          | [x, y], hp =>
            simp only [on2, pCopS] at hp
            cases hc : pCop op x y with
            | none => rw [hc] at hp; cases hp
            | some k => rw [hc] at hp; cases hp; exact ⟨k, rfl⟩
/-! ### chains -/
theorem val_chn {o o2 : CmpOp} {e : Env} : valOf (ev G call (.chn o o2 ja jb jc) e) = (valOf (ev G call ja e)).bind fun q => (valOf (ev G call jb q.2)).bind fun r => (ofO q.1.d).bind fun x => (ofO r.1.d).bind fun y =>
    (ofO (pCop o x y)).bind fun k => if k = true then (valOf (ev G call jc r.2)).bind fun s => (ofO s.1.d).bind fun z => (ofO (pCop o2 y z)).bind fun k2 => .ok (.sh (.bl k2), s.2) else .ok (.sh (.bl false), r.2) := by
  rw [ev]
  cases valOf (ev G call ja e) with
  | bad => rfl
  | ex c => rfl
  | ok q =>
    simp only [Res.bind_ok]
    cases valOf (ev G call jb q.2) with
    | bad => rfl
    | ex c => rfl
    | ok r =>
      simp only [Res.bind_ok]
      cases hq : q.1.d with
      | none => rfl
      | some x =>
        cases hr : r.1.d with
        | none => rfl
        | some y =>
          simp only [ofO, Res.bind_ok]
          cases pCop o x y with
          | none => rfl
          | some k =>
            cases k with
            | false => rfl
            | true =>
              simp only [Res.bind_ok, if_true]
              cases valOf (ev G call jc r.2) with
              | bad => rfl
              | ex c => rfl
              | ok s =>
                simp only [Res.bind_ok]
                cases s.1.d with
                | none => rfl
                | some z =>
                  simp only [Res.bind_ok]
                  cases pCop o2 y z <;> rfl
theorem EW.after {K : PySem.W.Frag} {Wx : Str → Hp → Prop} {Z : Addr → Prop} {e e1 : Env} {σ : St} {H H1 : Hp} {r : Res (Sl × Env)} {Q : VK} (T : Step K Z Z e σ H e1 H1) (q : EW K Z e σ H Wx r Q) : EW K Z e1 σ H1 Wx r Q := by
  cases r with
  | bad => exact q
  | ex c => exact fun H' k => q H' (T.keep.trans k fun a _ _ z => T.own a z)
  | ok p => exact fun v H' S r => q v H' (T.trans S) r
theorem chn_read {o o2 : CmpOp} {σ : St} {H : Hp} {Q : VK} {Z : Addr → Prop} {en : Env} (E : EnvOk X.K Z en σ H) (q' : EW X.K Z en σ H (Wn σ) (valOf (ev G call (.chn o o2 ja jb jc) en)) Q) :
    tChain (rP2 X.K (pCopS o)) (rP2 X.K (pCopS o2)) (rE X Wn G call ja) (rE X Wn G call jb) (rE X Wn G call jc) σ H Q := by
  refine ⟨Z, en, E, ?_⟩
  rw [val_chn] at q'
  refine ew_bind q' fun s e1 v H1 S r q => ⟨Z, e1, S.env.let_go, ew_bind q fun s2 e2 v2 H2 S2 r2 q => ?_⟩
  obtain ⟨d, hd⟩ := r.sl
  obtain ⟨d2, hd2⟩ := r2.sl
  simp only [hd, hd2, ofO, Res.bind_ok] at q
  have R1 : Rep X.K (Free Z e2 σ) H2 v d := S2.down.rep (r.down hd)
  cases hk : pCop o d d2 with
  | none => rw [hk] at q; exact q.elim
  | some k =>
    rw [hk] at q
    simp only [Res.bind_ok] at q
    refine ⟨d, d2, .sh (.bl k), Free Z e2 σ, by unfold pCopS; rw [hk]; rfl, fun a na => S2.down.env.new_free na, .inl R1, r2.arg hd2, fun w H3 P => ?_⟩
    have w' : Rep X.K (Free Z e2 σ) H3 w (.bl k) := P.val
    cases w'
    refine ⟨k, rfl, ?_⟩
    have E3 : EnvOk X.K Z e2 σ H3 := S2.down.env.grow P.grow
    have T3 : Step X.K Z Z e2 σ H2 e2 H3 := ⟨E3, fun a o x _ => P.grow a o x, fun _ z => z, fun _ z => z, fun _ z => .inl z⟩
    have R2 : Rep X.K (Free Z e2 σ) H3 v2 d2 := T3.rep (r2.down hd2)
    have q3 := EW.after T3 q
    cases k with
    | false => exact q3 _ H3 (Step.refl E3).zsh (.bl _)
    | true =>
      simp only [if_true] at q3 ⊢
      refine ⟨Z, e2, E3, ew_bind q3 fun s3 e3 v3 H4 S3 r3 q => ?_⟩
      obtain ⟨d3, hd3⟩ := r3.sl
      simp only [hd3, Res.bind_ok] at q
      cases hk : pCop o2 d2 d3 with
      | none => rw [hk] at q; exact q.elim
      | some k2 =>
        rw [hk] at q
        refine ⟨d2, d3, .sh (.bl k2), Free Z e3 σ, by unfold pCopS; rw [hk]; rfl, fun a na => S3.down.env.new_free na, .inl (S3.down.rep R2), r3.arg hd3, fun w H5 P => ?_⟩
        obtain ⟨T, r⟩ := ppost_step (Step.refl S3.down.env) P
        exact q w H5 T r
theorem e_chn {o o2 : CmpOp} (hu : X.A.units + 65 < cLine) (hm : lastMarks [o, o2] [b, c] = false) (ha : PE X a (rE X Wn G call ja)) (hb : PE X b (rE X Wn G call jb)) (hc : PE X c (rE X Wn G call jc)) :
    PE X (.Compare a [o, o2] [b, c] pos) (rE X Wn G call (.chn o o2 ja jb jc)) :=
  pe_imp (pe_chain (cop_ok hu o) (cop_ok hu o2) ha hb hc hm) fun σ H Q ⟨Z, en, E, q⟩ => chn_read E q
theorem t_chn {o o2 : CmpOp} (hu : X.A.units + 65 < cLine) (hm : lastMarks [o, o2] [b, c] = false) (ha : PE X a (rE X Wn G call ja)) (hb : PE X b (rE X Wn G call jb)) (hc : PE X c (rE X Wn G call jc)) :
    PT X (.Compare a [o, o2] [b, c] pos) (rT X Wn G call (.tch o o2 ja jb jc)) :=
  pt_imp (pt_chain (cop_ok hu o) (cop_ok hu o2) ha hb hc hm) fun σ H Q ⟨Z, en, E, q⟩ => by
    have q' : TW X.K Z en σ H (Wn σ) (tstOf (ev G call (.tch o o2 ja jb jc) en)) Q := q
    rw [ev_tch] at q'
    refine chn_read E (tst_val (fun s e1 hv => ?_) q')
    rw [val_chn] at hv
    cases h1 : valOf (ev G call ja en) with
    | bad => rw [h1] at hv; cases hv
    | ex c => rw [h1] at hv; cases hv
    | ok p =>
      rw [h1] at hv
      simp only [Res.bind_ok] at hv
      cases h2 : valOf (ev G call jb p.2) with
      | bad => rw [h2] at hv; cases hv
      | ex c => rw [h2] at hv; cases hv
      | ok p2 =>
        rw [h2] at hv
        simp only [Res.bind_ok] at hv
        cases h3 : p.1.d with
        | none => rw [h3] at hv; cases hv
        | some x =>
          rw [h3] at hv
          cases h4 : p2.1.d with
          | none => rw [h4] at hv; cases hv
          | some y =>
            rw [h4] at hv
            simp only [ofO, Res.bind_ok] at hv
            cases h5 : pCop o x y with
            | none => rw [h5] at hv; cases hv
            | some k =>
              rw [h5] at hv
              simp only [Res.bind_ok] at hv
              cases k with
              | false => cases hv; exact ⟨_, rfl⟩
              | true =>
                simp only [if_true] at hv
                cases h6 : valOf (ev G call jc p2.2) with
                | bad => rw [h6] at hv; cases hv
                | ex c => rw [h6] at hv; cases hv
                | ok p3 =>
                  rw [h6] at hv
                  simp only [Res.bind_ok] at hv
                  cases h7 : p3.1.d with
                  | none => rw [h7] at hv; cases hv
                  | some z =>
                    rw [h7] at hv
                    simp only [Res.bind_ok] at hv
                    cases h8 : pCop o2 y z with
                    | none => rw [h8] at hv; cases hv
                    | some k2 => rw [h8] at hv; cases hv; exact ⟨_, rfl⟩
end
end RF


namespace RF
open PySem PySem.Spec PyProof.Rows L2
section
variable {X : Cx} {G : Sig} {call : Nat → List Sl → Res (Sl × List Sl)} {Wn : WN} {ie ja jb jc : I} {pos : Pos} {a b c : Expr} {es : List Expr}
/-! ### and, or, not, if as values -/
theorem val_vnot {e : Env} : valOf (ev G call (.vnot ja) e) = (valOf (ev G call ja e)).bind fun q => (ofO (q.1.d.bind D.truth)).bind fun b => .ok (.sh (.bl (!b)), q.2) := by
  rw [ev]
  cases valOf (ev G call ja e) with
  | bad => rfl
  | ex c => rfl
  | ok q => simp only [Res.bind_ok]; cases q.1.d.bind D.truth <;> rfl
theorem e_vnot (ha : PE X a (rE X Wn G call ja)) : PE X (.UnaryOp .Not a pos) (rE X Wn G call (.vnot ja)) := by
  refine pe_imp (pe_notT ha) fun σ H Q ⟨Z, en, E, q⟩ => ⟨Z, en, E, ?_⟩
  have q' : EW X.K Z en σ H (Wn σ) (valOf (ev G call (.vnot ja) en)) Q := q
  rw [val_vnot] at q'
  refine ew_bind q' fun s e1 v H1 S r q => ?_
  obtain ⟨d, hd⟩ := r.sl
  simp only [hd, Option.bind_some] at q
  cases ht : d.truth with
  | none => rw [ht] at q; exact q.elim
  | some k =>
    rw [ht] at q
    exact ⟨k, arg_tru (r.arg hd) ht, q _ H1 (Step.refl S.env.let_go).zsh (.bl _)⟩
theorem val_vand {e : Env} : valOf (ev G call (.vand ja jb) e) = (valOf (ev G call ja e)).bind fun q => (ofO q.1.d).bind fun d => (ofO d.truth).bind fun k => if k = true then (valOf (ev G call jb q.2)).bind fun r => .ok (r.1.down, r.2) else .ok (.sh d, q.2) := by
  rw [ev]
  cases valOf (ev G call ja e) with
  | bad => rfl
  | ex c => rfl
  | ok q =>
    simp only [Res.bind_ok]
    cases q.1.d with
    | none => rfl
    | some d =>
      simp only [ofO, Res.bind_ok]
      cases d.truth with
      | none => rfl
      | some k =>
        cases k with
        | false => rfl
        | true => simp only [Res.bind_ok, if_true]; cases valOf (ev G call jb q.2) <;> rfl
theorem val_vor {e : Env} : valOf (ev G call (.vor ja jb) e) = (valOf (ev G call ja e)).bind fun q => (ofO q.1.d).bind fun d => (ofO d.truth).bind fun k => if k = true then .ok (.sh d, q.2) else (valOf (ev G call jb q.2)).bind fun r => .ok (r.1.down, r.2) := by
  rw [ev]
  cases valOf (ev G call ja e) with
  | bad => rfl
  | ex c => rfl
  | ok q =>
    simp only [Res.bind_ok]
    cases q.1.d with
    | none => rfl
    | some d =>
      simp only [ofO, Res.bind_ok]
      cases d.truth with
      | none => rfl
      | some k =>
        cases k with
        | true => rfl
        | false => simp only [Res.bind_ok, Bool.false_eq_true, if_false]; cases valOf (ev G call jb q.2) <;> rfl
theorem ew_down {Z : Addr → Prop} {en : Env} {σ : St} {H : Hp} {Wx : Str → Hp → Prop} {r : Res (Sl × Env)} {Q : VK} (h : EW X.K Z en σ H Wx (r.bind fun r => .ok (r.1.down, r.2)) Q) : EW X.K Z en σ H Wx r Q := by
  cases r with
  | bad => exact h
  | ex c => exact h
  | ok p =>
    obtain ⟨s, e1⟩ := p
    intro v H1 S r
    obtain ⟨d, hd⟩ := r.sl
    have hs : s.down = .sh d := by cases s <;> first | (cases hd; rfl) | cases hd
    have h' : EW X.K Z en σ H Wx (.ok (s.down, e1)) Q := h
    rw [hs] at h'
    exact h' v H1 S.down.zsh (r.down hd)
theorem e_vand (ha : PE X a (rE X Wn G call ja)) (hb : PE X (.BoolOp .And (b :: es) pos) (rE X Wn G call jb)) : PE X (.BoolOp .And (a :: b :: es) pos) (rE X Wn G call (.vand ja jb)) := by
  refine pe_imp (pe_andT ha hb) fun σ H Q ⟨Z, en, E, q⟩ => ⟨Z, en, E, ?_⟩
  have q' : EW X.K Z en σ H (Wn σ) (valOf (ev G call (.vand ja jb) en)) Q := q
  rw [val_vand] at q'
  refine ew_bind q' fun s e1 v H1 S r q => ?_
  obtain ⟨d, hd⟩ := r.sl
  simp only [hd, ofO, Res.bind_ok] at q
  cases ht : d.truth with
  | none => rw [ht] at q; exact q.elim
  | some k =>
    rw [ht] at q
    refine ⟨k, arg_tru (r.arg hd) ht, ?_⟩
    simp only [Res.bind_ok] at q
    cases k with
    | true =>
      simp only [if_true] at q ⊢
      exact ⟨Z, e1, S.env.let_go, ew_down q⟩
    | false =>
      simp only [Bool.false_eq_true, if_false] at q ⊢
      exact q _ H1 (Step.refl S.env.let_go).zsh (r.down hd)
theorem e_vor (ha : PE X a (rE X Wn G call ja)) (hb : PE X (.BoolOp .Or (b :: es) pos) (rE X Wn G call jb)) : PE X (.BoolOp .Or (a :: b :: es) pos) (rE X Wn G call (.vor ja jb)) := by
  refine pe_imp (pe_orT ha hb) fun σ H Q ⟨Z, en, E, q⟩ => ⟨Z, en, E, ?_⟩
  have q' : EW X.K Z en σ H (Wn σ) (valOf (ev G call (.vor ja jb) en)) Q := q
  rw [val_vor] at q'
  refine ew_bind q' fun s e1 v H1 S r q => ?_
  obtain ⟨d, hd⟩ := r.sl
  simp only [hd, ofO, Res.bind_ok] at q
  cases ht : d.truth with
  | none => rw [ht] at q; exact q.elim
  | some k =>
    rw [ht] at q
    refine ⟨k, arg_tru (r.arg hd) ht, ?_⟩
    simp only [Res.bind_ok] at q
    cases k with
    | false =>
      simp only [Bool.false_eq_true, if_false] at q ⊢
      exact ⟨Z, e1, S.env.let_go, ew_down q⟩
    | true =>
      simp only [if_true] at q ⊢
      exact q _ H1 (Step.refl S.env.let_go).zsh (r.down hd)
theorem val_ife {e : Env} : valOf (ev G call (.ife jc ja jb) e) = (tstOf (ev G call jc e)).bind fun q => if q.1 = true then valOf (ev G call ja q.2) else valOf (ev G call jb q.2) := by
  rw [ev]
  cases tstOf (ev G call jc e) with
  | bad => rfl
  | ex c => rfl
  | ok q => simp only [Res.bind_ok]; split <;> rfl
theorem e_ife (hc : PT X c (rT X Wn G call jc)) (ha : PE X a (rE X Wn G call ja)) (hb : PE X b (rE X Wn G call jb)) : PE X (.IfExp c a b pos) (rE X Wn G call (.ife jc ja jb)) := by
  refine pe_imp (pe_ifExp hc ha hb) fun σ H Q ⟨Z, en, E, q⟩ => ⟨Z, en, E, ?_⟩
  have q' : EW X.K Z en σ H (Wn σ) (valOf (ev G call (.ife jc ja jb) en)) Q := q
  rw [val_ife] at q'
  refine tw_bind q' fun k e1 H1 S q => ?_
  cases k with
  | true => exact ⟨Z, e1, S.env, q⟩
  | false => exact ⟨Z, e1, S.env, q⟩
/-! ### slices -/
def on3 (lo hi : Bool) : List D → Option Sl := fun ds => match lo, hi, ds with
  | true, true, [a, .int i, .int j] => pSl a (some i) (some j)
  | true, false, [a, .int i] => pSl a (some i) none
  | false, true, [a, .int j] => pSl a none (some j)
  | false, false, [a] => pSl a none none
  | _, _, _ => none
theorem val_sle {lo hi : Bool} {e : Env} : valOf (ev G call (.sle lo hi ie) e) = opn (on3 lo hi) (argsOf (ev G call ie e)) := by
  rw [ev]
  cases argsOf (ev G call ie e) with
  | bad => rfl
  | ex c => rfl
  | ok q =>
    obtain ⟨as, e1⟩ := q
    simp only [opn, Res.bind_ok]
    cases look e1 as with
    | none => cases lo <;> cases hi <;> rfl
    | some ds =>
      simp only [on3]
      split
      · cases hp : pSl _ _ _ <;> simp_all [ofO, valOf]
      · cases hp : pSl _ _ _ <;> simp_all [ofO, valOf]
      · cases hp : pSl _ _ _ <;> simp_all [ofO, valOf]
      · cases hp : pSl _ _ _ <;> simp_all [ofO, valOf]
      · rename_i h1 h2 h3 h4
        split
        · rename_i a i j; exact (h1 a i j rfl rfl rfl).elim
        · rename_i a i; exact (h2 a i rfl rfl rfl).elim
        · rename_i a i; exact (h3 a i rfl rfl rfl).elim
        · rename_i a; exact (h4 a rfl rfl rfl).elim
        · rfl
theorem e_sle {l u : Option Expr} {p2 : Pos} (hlu : (l.isSome && u.isSome) = false) (hr : isRow ie = true) (h : SArgs X (a :: (l.toList ++ u.toList)) (heads X.K Wn G call ie)) : PE X (.Subscript a (.Slice l u none p2) pos) (rE X Wn G call (.sle l.isSome u.isSome ie)) := by
  cases l with
  | none =>
    cases u with
    | none =>
      obtain ⟨ta, e, ha⟩ := SArgs.one h
      refine pe_imp (pe_slice sl_ok ha po_none po_none) fun σ H Q ⟨Z, en, E, q⟩ => ?_
      have q' : EW X.K Z en σ H (Wn σ) (valOf (ev G call (.sle false false ie) en)) Q := q
      rw [val_sle] at q'
      have c := aw_opn hr E q'
      rw [e] at c
      have m := fun t ht => heads_mono (K := X.K) (Wn := Wn) (G := G) (call := call) ie t (e ▸ ht)
      refine m ta (by simp) _ _ _ _ (fun x H1 q => ?_) c
      obtain ⟨ds, s, ok, hp, hn, hA, k⟩ := q
      cases hA with
      | cons a1 r => cases r; exact ⟨_, s, ok, hp, hn, a1, k⟩
    | some u =>
      obtain ⟨ta, tb, e, ha, hb⟩ := SArgs.two h
      refine pe_imp (pe_slice sl_ok ha po_none (po_some hb)) fun σ H Q ⟨Z, en, E, q⟩ => ?_
      have q' : EW X.K Z en σ H (Wn σ) (valOf (ev G call (.sle false true ie) en)) Q := q
      rw [val_sle] at q'
      have c := aw_opn hr E q'
      rw [e] at c
      have m := fun t ht => heads_mono (K := X.K) (Wn := Wn) (G := G) (call := call) ie t (e ▸ ht)
      refine m ta (by simp) _ _ _ _ (fun x H1 q => m tb (by simp) _ _ _ _ (fun y H2 q => ?_) q) c
      obtain ⟨ds, s, ok, hp, hn, hA, k⟩ := q
      cases hA with
      | cons a1 r => cases r with
        | cons a2 r =>
          rename_i d1 _ d2 _
          cases r
          cases d2 <;> first | exact nomatch (show (none : Option Sl) = some _ from hp) | skip
          exact ⟨_, a2.int, _, s, ok, hp, hn, a1, k⟩
  | some l =>
    cases u with
    | none =>
      obtain ⟨ta, tb, e, ha, hb⟩ := SArgs.two h
      refine pe_imp (pe_slice sl_ok ha (po_some hb) po_none) fun σ H Q ⟨Z, en, E, q⟩ => ?_
      have q' : EW X.K Z en σ H (Wn σ) (valOf (ev G call (.sle true false ie) en)) Q := q
      rw [val_sle] at q'
      have c := aw_opn hr E q'
      rw [e] at c
      have m := fun t ht => heads_mono (K := X.K) (Wn := Wn) (G := G) (call := call) ie t (e ▸ ht)
      refine m ta (by simp) _ _ _ _ (fun x H1 q => m tb (by simp) _ _ _ _ (fun y H2 q => ?_) q) c
      obtain ⟨ds, s, ok, hp, hn, hA, k⟩ := q
      cases hA with
      | cons a1 r => cases r with
        | cons a2 r =>
          rename_i d1 _ d2 _
          cases r
          cases d2 <;> first | exact nomatch (show (none : Option Sl) = some _ from hp) | skip
          exact ⟨_, a2.int, _, s, ok, hp, hn, a1, k⟩
    | some u => exact nomatch hlu

/-! ### what is walked -/
abbrev rI (X : Cx) (Wn : WN) (G : Sig) (call : Nat → List Sl → Res (Sl × List Sl)) (ie : I) : TI := tI X.K Wn (fun e => itsOf (ev G call ie e))
theorem pi_or {tg : Expr} {w1 w2 : TI} (h1 : PI X tg a w1) (h2 : PI X tg a w2) : PI X tg a (fun σ H R => w1 σ H R ∨ w2 σ H R) :=
  ⟨fun pins s σ H R I q => q.elim (fun q => h1.run pins s σ H R I q) fun q => h2.run pins s σ H R I q⟩
theorem wk_list {K : PySem.W.Frag} {ok : Addr → Prop} {H : Hp} {p : Addr} {xs : List V} {ds : List D} (h : SLo K ok H p xs) (r : Reps K ok H xs ds) : Wk K (Itl K p) ok H ds := by
  refine ⟨fun i d H' hd st => ?_, fun i H' hi st => ?_⟩
  · have h' : SqL K H' p xs := (h.mono (ok' := ok) fun b o k x => ⟨k, st b o k x⟩).sq
    obtain ⟨x, hx, rx⟩ := r.get hd
    refine ⟨⟨xs, x, h', hx⟩, fun y H2 hy => ?_⟩
    obtain ⟨rfl, hy⟩ := hy
    have e := hy xs h'
    rw [hx] at e; cases e
    exact ⟨fun _ _ e => e, rx.mono fun b o k x => ⟨.inl ⟨k, o, x⟩, st b o k x⟩⟩
  · have h' : SqL K H' p xs := (h.mono (ok' := ok) fun b o k x => ⟨k, st b o k x⟩).sq
    exact ⟨xs, h', by rw [r.length]; exact hi⟩
theorem wk_tup {K : PySem.W.Frag} {ok : Addr → Prop} {H : Hp} {p : Addr} {xs : List V} {ds : List D} (h : STo K ok H p xs) (r : Reps K ok H xs ds) : Wk K (Itt K p) ok H ds := by
  refine ⟨fun i d H' hd st => ?_, fun i H' hi st => ?_⟩
  · have h' : SqT K H' p xs := (h.mono (ok' := ok) fun b o k x => ⟨k, st b o k x⟩).sq
    obtain ⟨x, hx, rx⟩ := r.get hd
    refine ⟨⟨xs, x, h', hx⟩, fun y H2 hy => ?_⟩
    obtain ⟨rfl, hy⟩ := hy
    have e := hy xs h'
    rw [hx] at e; cases e
    exact ⟨fun _ _ e => e, rx.mono fun b o k x => ⟨.inl ⟨k, o, x⟩, st b o k x⟩⟩
  · have h' : SqT K H' p xs := (h.mono (ok' := ok) fun b o k x => ⟨k, st b o k x⟩).sq
    exact ⟨xs, h', by rw [r.length]; exact hi⟩
theorem wk_range {K : PySem.W.Frag} {ok : Addr → Prop} {H : Hp} (lo hi : Int) : Wk K (Itr lo (hi - lo).toNat) ok H (rngL lo hi) := by
  refine ⟨fun i d H' hd _ => ?_, fun i H' hl _ => ?_⟩
  · have hi' : i < (hi - lo).toNat := by have := lt_of_get hd; simpa [rngL] using this
    refine ⟨hi', fun y H2 hy => ?_⟩
    obtain ⟨rfl, rfl⟩ := hy
    have e : d = .int (lo + i) := by
      unfold rngL at hd
      rw [List.getElem?_map, List.getElem?_range hi'] at hd
      exact (Option.some.inj hd).symm
    subst e
    exact ⟨fun _ _ e => e, .int _⟩
  · show (hi - lo).toNat ≤ i
    simpa [rngL] using hl
theorem i_itV {tg : Expr} (ha : PE X a (rE X Wn G call ja)) : PI X tg a (rI X Wn G call (.itV ja)) := by
  refine pi_imp (pi_or (pi_list ha) (pi_tup ha)) fun σ H R ⟨Z, en, E, q⟩ => ?_
  have q' : IW X.K Z en σ H (Wn σ) (itsOf (ev G call (.itV ja) en)) R := q
  rw [ev] at q'
  cases hr : valOf (ev G call ja en) with
  | bad => rw [hr] at q'; exact q'.elim
  | ex c =>
    rw [hr] at q'
    refine .inl ⟨Z, en, E, ?_⟩
    show EW X.K Z en σ H (Wn σ) (valOf (ev G call ja en)) _
    rw [hr]; exact q'
  | ok p =>
    obtain ⟨s, e1⟩ := p
    rw [hr] at q'
    simp only [Res.bind_ok] at q'
    cases hd : s.d with
    | none => rw [hd] at q'; exact q'.elim
    | some d =>
      rw [hd] at q'
      cases d with
      | lst ds =>
        refine .inl ⟨Z, en, E, ?_⟩
        show EW X.K Z en σ H (Wn σ) (valOf (ev G call ja en)) _
        rw [hr]
        intro v H1 S r
        have rr := r.down hd
        cases rr with
        | lst h1 h2 => exact ⟨_, rfl, ⟨_, h1.sq⟩, q' _ H1 S.down (wk_list h1 h2)⟩
      | tup ds =>
        refine .inr ⟨Z, en, E, ?_⟩
        show EW X.K Z en σ H (Wn σ) (valOf (ev G call ja en)) _
        rw [hr]
        intro v H1 S r
        have rr := r.down hd
        cases rr with
        | tup h1 h2 => exact ⟨_, rfl, ⟨_, h1.sq⟩, q' _ H1 S.down (wk_tup h1 h2)⟩
      | _ => exact q'.elim
theorem inI {i : Int} (h : inI62 i = true) : -(2 ^ 62) ≤ i ∧ i < 2 ^ 62 := of_decide_eq_true h
theorem i_rng1 {tg : Expr} {p p2 : Pos} (hg : Gl X "range") (hm : X.mg "range" = none) (hr : isRow ie = true) (h : SArgs X [a] (heads X.K Wn G call ie)) : PI X tg (.Call (.Name "range" p) [a] [] p2) (rI X Wn G call (.itR ie)) := by
  refine pi_imp (pi_range1 hg hm h.pa (star_cons h.fst)) fun σ H R ⟨Z, en, E, q⟩ => ?_
  have q' : IW X.K Z en σ H (Wn σ) (itsOf (ev G call (.itR ie) en)) R := q
  rw [ev] at q'
  refine aw_chain ie hr E ?_
  cases hq : argsOf (ev G call ie en) with
  | bad => rw [hq] at q'; exact q'.elim
  | ex c => rw [hq] at q'; exact q'
  | ok p =>
    obtain ⟨as, e1⟩ := p
    rw [hq] at q'
    simp only [Res.bind_ok] at q'
    intro vs H1 Zf S A
    match hl : look e1 as, q' with
    | some [.int j], q' =>
      obtain ⟨v, rfl, av⟩ := (A.args S.env S.zsub hl).one
      cases av.int
      by_cases hj : inI62 j = true
      · simp only [hj, if_true] at q'
        obtain ⟨j1, j2⟩ := inI hj
        have w := wk_range (K := X.K) (ok := Free Z e1 σ) (H := H1) 0 j
        rw [Int.sub_zero] at w
        exact ⟨j, rfl, j1, j2, q' _ H1 S.down w⟩
      · simp only [hj] at q'; exact q'.elim
theorem i_rng2 {tg : Expr} {p p2 : Pos} (hg : Gl X "range") (hm : X.mg "range" = none) (hr : isRow ie = true) (h : SArgs X [a, b] (heads X.K Wn G call ie)) : PI X tg (.Call (.Name "range" p) [a, b] [] p2) (rI X Wn G call (.itR2 ie)) := by
  have hb := h.fst2
  refine pi_imp (pi_range2 hg hm h.pa (by rw [star_cons h.fst, star_cons hb]; rfl) (by rw [star_cons hb]; rfl)) fun σ H R ⟨Z, en, E, q⟩ => ?_
  have q' : IW X.K Z en σ H (Wn σ) (itsOf (ev G call (.itR2 ie) en)) R := q
  rw [ev] at q'
  refine aw_chain ie hr E ?_
  cases hq : argsOf (ev G call ie en) with
  | bad => rw [hq] at q'; exact q'.elim
  | ex c => rw [hq] at q'; exact q'
  | ok p =>
    obtain ⟨as, e1⟩ := p
    rw [hq] at q'
    simp only [Res.bind_ok] at q'
    intro vs H1 Zf S A
    match hl : look e1 as, q' with
    | some [.int i, .int j], q' =>
      obtain ⟨v, u, rfl, av, au⟩ := (A.args S.env S.zsub hl).two
      cases av.int
      cases au.int
      by_cases hj : (inI62 i && inI62 j) = true
      · simp only [hj, if_true] at q'
        rw [Bool.and_eq_true] at hj
        obtain ⟨i1, i2⟩ := inI hj.1
        obtain ⟨j1, j2⟩ := inI hj.2
        exact ⟨i, j, rfl, ⟨i1, i2, j1, j2⟩, q' _ H1 S.down (wk_range i j)⟩
      · simp only [hj] at q'; exact q'.elim
end

/-! ### targets -/
/-- the names that a target stores -/
def slots : I → List Nat
  | .tN i => [i]
  | .tT ts => slots ts
  | .tCons t ts => slots t ++ slots ts
  | _ => []
structure Took (K : PySem.W.Frag) (Z : Addr → Prop) (e : Env) (σ : St) (H : Hp) (e' : Env) (σ' : St) (is : List Nat) : Prop where
  env : EnvOk K Z e' σ' H
  own : ∀ a, Own e' σ' a → Own e σ a
  len : σ'.length = σ.length
  same : ∀ i, i ∉ is → σ'[i]? = σ[i]? ∧ e'[i]? = e[i]?
def tG (K : PySem.W.Frag) (ie : I) : TG := fun v σ H Q => ∃ Z e d e', EnvOk K Z e σ H ∧ Rep K (Free Z e σ) H v d ∧ take ie d e = some e' ∧ ∀ σ', Took K Z e σ H e' σ' (slots ie) → Q σ' H
def tGs (K : PySem.W.Frag) (ie : I) : TGs := fun vs σ H Q => ∃ Z e ds e', EnvOk K Z e σ H ∧ Reps K (Free Z e σ) H vs ds ∧ takes ie ds e = some e' ∧ ∀ σ', Took K Z e σ H e' σ' (slots ie) → Q σ' H
section
variable {X : Cx} {t : Expr} {ts : List Expr} {pos : Pos} {ie je : I}
theorem pg_imp {g g' : TG} (h : PG X t g) (i : ∀ v σ H Q, g' v σ H Q → g v σ H Q) : PG X t g' := ⟨fun pins s σ H v u Q I r q => h.run pins s σ H v u Q I r (i v σ H Q q)⟩
theorem pgs_imp {g g' : TGs} (h : PGs X ts g) (i : ∀ v σ H Q, g' v σ H Q → g v σ H Q) : PGs X ts g' := ⟨fun pins s σ H v u Q I r q => h.run pins s σ H v u Q I r (i v σ H Q q)⟩
theorem g_name {i : Nat} {x : Str} (hN : X.N.Nodup) (hi : X.N[i]? = some x) (hx : Loc X.env.scope x) (hf : X.fn x = true ∨ X.env.scope.names.lookup x = some .local) : PG X (.Name x pos) (tG X.K (.tN i)) := by
  refine pg_imp (pg_name hN hi hx hf) fun v σ H Q ⟨Z, e, d, e', E, r, ht, k⟩ => ?_
  rw [take] at ht
  by_cases hl : i < e.length
  · rw [if_pos hl] at ht
    cases ht
    have E' : EnvOk X.K (Zp Z v (.sh d)) e σ H := E.less fun a z => zp_sh.mp z
    refine k _ ⟨E'.give (s := .sh d) r hl, fun a o => (own_give o).elim id False.elim, by rw [List.length_set], fun j hj => ?_⟩
    have hij : i ≠ j := fun q => hj (by rw [q]; exact List.mem_singleton.mpr rfl)
    exact ⟨List.getElem?_set_ne hij, List.getElem?_set_ne hij⟩
  · rw [if_neg hl] at ht; cases ht
theorem gs_nil : PGs X [] (tGs X.K .tNil) := by
  refine pgs_imp pgs_nil fun vs σ H Q ⟨Z, e, ds, e', E, r, ht, k⟩ => ?_
  cases ds with
  | nil =>
    rw [takes] at ht; cases ht
    cases r
    exact ⟨rfl, k σ ⟨E, fun _ h => h, rfl, fun _ _ => ⟨rfl, rfl⟩⟩⟩
  | cons d ds => exact nomatch (show (none : Option Env) = some _ from ht)
theorem gs_cons (h1 : PG X t (tG X.K ie)) (h2 : PGs X ts (tGs X.K je)) (hs : (assignEach (t :: ts) X.env).map (·.2) = assign t X.env :: (assignEach ts X.env).map (·.2)) : PGs X (t :: ts) (tGs X.K (.tCons ie je)) := by
  refine pgs_imp (pgs_cons h1 h2 hs) fun vs σ H Q ⟨Z, e, ds, e', E, r, ht, k⟩ => ?_
  cases r with
  | nil => exact nomatch (show (none : Option Env) = some _ from ht)
  | cons r1 r2 =>
    rw [takes] at ht
    cases h0 : take ie _ e with
    | none => rw [h0] at ht; cases ht
    | some e1 =>
      rw [h0] at ht
      refine ⟨_, _, rfl, Z, e, _, e1, E, r1, h0, fun σ1 T1 => ⟨Z, e1, _, e', T1.env, r2.mono fun b o f x => ⟨⟨f.1, fun z => f.2 (T1.own b z)⟩, x⟩, ht, fun σ2 T2 => k σ2 ⟨T2.env, fun a z => T1.own a (T2.own a z), T2.len.trans T1.len, fun i hi => ?_⟩⟩⟩
      have n1 : i ∉ slots ie := fun z => hi (List.mem_append_left _ z)
      have n2 : i ∉ slots je := fun z => hi (List.mem_append_right _ z)
      exact ⟨(T2.same i n2).1.trans (T1.same i n1).1, (T2.same i n2).2.trans (T1.same i n1).2⟩
theorem pg_or {g1 g2 : TG} (h1 : PG X t g1) (h2 : PG X t g2) : PG X t (fun v σ H Q => g1 v σ H Q ∨ g2 v σ H Q) :=
  ⟨fun pins s σ H v u Q I r q => q.elim (fun q => h1.run pins s σ H v u Q I r q) fun q => h2.run pins s σ H v u Q I r q⟩
theorem takes_len : ∀ (ie : I) (ds : List D) (e e' : Env), takes ie ds e = some e' → ds.length = (slots ie).length ∨ True := fun _ _ _ _ _ => .inr trivial
/-- the number of targets -/
def wideT : I → Nat
  | .tCons _ ts => wideT ts + 1
  | _ => 0
theorem takes_wide : ∀ (ie : I) {ds : List D} {e e' : Env}, takes ie ds e = some e' → ds.length = wideT ie := by
  intro ie
  induction ie with
  | tNil =>
    intro ds e e' h
    cases ds with
    | nil => rfl
    | cons d ds => exact nomatch (show (none : Option Env) = some _ from h)
  | tCons t ts _ ih =>
    intro ds e e' h
    cases ds with
    | nil => exact nomatch (show (none : Option Env) = some _ from h)
    | cons d ds =>
      rw [takes] at h
      cases h0 : take t d e with
      | none => rw [h0] at h; cases h
      | some e1 =>
        rw [h0] at h
        rw [List.length_cons, ih h]; rfl
  | _ => intro ds e e' h; cases ds <;> exact nomatch (show (none : Option Env) = some _ from h)
theorem g_tup {k : Nat} (hc : X.calm = true) (h : PGs X ts (tGs X.K ie)) (hn : (assignEach ts X.env).length = wideT ie) (hst : (assignEach ts X.env).findIdx? (·.1) = none) : PG X (.Tuple ts k pos) (tG X.K (.tT ie)) := by
  refine pg_imp (pg_or (pg_tup hc h hn hst) (pg_lst hc h hn hst)) fun v σ H Q ⟨Z, e, d, e', E, r, ht, q⟩ => ?_
  rw [take] at ht
  cases r with
  | tup h1 h2 => exact .inl ⟨_, _, rfl, h1.sq, by rw [h2.length, takes_wide ie (show takes ie _ e = some e' from ht)], Z, e, _, e', E, h2, ht, q⟩
  | lst h1 h2 => exact .inr ⟨_, _, rfl, h1.sq, by rw [h2.length, takes_wide ie (show takes ie _ e = some e' from ht)], Z, e, _, e', E, h2, ht, q⟩
  | _ => exact nomatch (show (none : Option Env) = some _ from ht)
end
end RF


namespace RF
open PySem PySem.Spec PyProof.Rows L2
section
variable {K : PySem.W.Frag} {Z : Addr → Prop} {e e1 e2 : Env} {σ σ1 σ2 : St} {H H1 H2 : Hp} {D0 : Addr} {is : List Nat}
theorem wipeE_len : ∀ (is : List Nat), (wipeE e is).length = e.length
  | [] => rfl
  | i :: is => by rw [wipeE, List.length_set, wipeE_len is]
theorem wipe_get : ∀ {is : List Nat} {j : Nat}, j ∉ is → (wipe σ is)[j]? = σ[j]?
  | [], _, _ => rfl
  | i :: is, j, h => by
    rw [wipe, List.getElem?_set_ne fun q => h (by rw [q]; exact List.mem_cons_self), wipe_get fun z => h (List.mem_cons_of_mem _ z)]
theorem wipeE_get : ∀ {is : List Nat} {j : Nat}, j ∉ is → (wipeE e is)[j]? = e[j]?
  | [], _, _ => rfl
  | i :: is, j, h => by
    rw [wipeE, List.getElem?_set_ne fun q => h (by rw [q]; exact List.mem_cons_self), wipeE_get fun z => h (List.mem_cons_of_mem _ z)]
theorem wipeE_in : ∀ {is : List Nat} {j : Nat} {s : Sl}, j ∈ is → (wipeE e is)[j]? = some s → s = .un
  | i :: is, j, s, h, q => by
    rw [wipeE] at q
    rcases set_get q with ⟨_, q, _⟩ | ⟨n, q⟩
    · exact q.symm
    · rcases List.mem_cons.mp h with z | z
      · exact absurd z.symm n
      · exact wipeE_in z q
theorem wipe_in : ∀ {is : List Nat} {j : Nat}, j ∈ is → (wipe σ is)[j]? = if j < σ.length then some none else none
  | i :: is, j, h => by
    rw [wipe]
    by_cases hij : i = j
    · subst hij
      by_cases hl : i < σ.length
      · rw [if_pos hl, List.getElem?_set_self (by rw [wipe_length]; exact hl)]
      · rw [if_neg hl]
        exact List.getElem?_eq_none (by rw [List.length_set, wipe_length]; omega)
    · rw [List.getElem?_set_ne hij]
      rcases List.mem_cons.mp h with z | z
      · exact absurd z.symm hij
      · exact wipe_in z
/-- names that differ at is alone are the same, wiped there -/
theorem wipe_eq (hl : σ2.length = σ1.length) (h : ∀ j, j ∉ is → σ2[j]? = σ1[j]?) : wipe σ2 is = wipe σ1 is := by
  apply List.ext_getElem?
  intro j
  by_cases hj : j ∈ is
  · rw [wipe_in hj, wipe_in hj, hl]
  · rw [wipe_get hj, wipe_get hj, h j hj]
theorem own_wipe {a : Addr} (h : Own (wipeE e is) (wipe σ is) a) : Own e σ a := by
  obtain ⟨i, d, h1, h2⟩ := h
  by_cases hi : i ∈ is
  · exact nomatch wipeE_in hi h1
  · rw [wipeE_get hi] at h1
    rw [wipe_get hi] at h2
    exact ⟨i, d, h1, h2⟩
/-- names are wiped -/
theorem EnvOk.wipe (E : EnvOk K Z e σ H) : EnvOk K Z (wipeE e is) (L2.wipe σ is) H := by
  have fr : ∀ b o, Free Z e σ b → H b = some o → Free Z (wipeE e is) (L2.wipe σ is) b ∧ H b = some o := fun b o f x => ⟨⟨f.1, fun z => f.2 (own_wipe z)⟩, x⟩
  refine ⟨by rw [wipeE_len, wipe_length]; exact E.len, fun j d h => ?_, fun j d h => ?_, fun j k d d' a h1 h2 h3 h4 => ?_, E.dom⟩
  · by_cases hj : j ∈ is
    · exact nomatch wipeE_in hj h
    · rw [wipeE_get hj] at h
      obtain ⟨v, h1, h2⟩ := E.sh j d h
      exact ⟨v, by rw [wipe_get hj]; exact h1, h2.mono fr⟩
  · by_cases hj : j ∈ is
    · exact nomatch wipeE_in hj h
    · rw [wipeE_get hj] at h
      obtain ⟨v, h1, h2, h3⟩ := E.ow j d h
      exact ⟨v, by rw [wipe_get hj]; exact h1, h2, h3.mono fr fun _ x => x⟩
  · by_cases hj : j ∈ is
    · exact nomatch wipeE_in hj h1
    · by_cases hk : k ∈ is
      · exact nomatch wipeE_in hk h2
      · rw [wipeE_get hj] at h1
        rw [wipeE_get hk] at h2
        rw [wipe_get hj] at h3
        rw [wipe_get hk] at h4
        exact E.inj j k d d' a h1 h2 h3 h4
theorem rest_get_out : ∀ {is : List Nat} {j : Nat}, j ∉ is → (rest e e1 is)[j]? = e1[j]?
  | [], _, _ => rfl
  | i :: is, j, h => by
    rw [rest]
    have h1 : i ≠ j := fun q => h (by rw [q]; exact List.mem_cons_self)
    have h2 : j ∉ is := fun z => h (List.mem_cons_of_mem _ z)
    cases e[i]? with
    | none => exact rest_get_out h2
    | some s => simp only; rw [List.getElem?_set_ne h1]; exact rest_get_out h2
theorem rest_len : ∀ (is : List Nat), (rest e e1 is).length = e1.length
  | [] => rfl
  | i :: is => by
    rw [rest]
    cases e[i]? with
    | none => exact rest_len is
    | some s => simp only; rw [List.length_set]; exact rest_len is
theorem rest_get_in (hl : e1.length = e.length) : ∀ {is : List Nat} {j : Nat}, j ∈ is → (rest e e1 is)[j]? = e[j]?
  | i :: is, j, h => by
    rw [rest]
    by_cases hij : i = j
    · subst hij
      cases hs : e[i]? with
      | none =>
        simp only
        have : e.length ≤ i := List.getElem?_eq_none_iff.mp hs
        exact List.getElem?_eq_none (by rw [rest_len, hl]; exact this)
      | some s =>
        simp only
        exact List.getElem?_set_self (by rw [rest_len, hl]; exact lt_of_get hs)
    · have hj : j ∈ is := (List.mem_cons.mp h).resolve_left fun q => hij q.symm
      cases e[i]? with
      | none => exact rest_get_in hl hj
      | some s => simp only; rw [List.getElem?_set_ne hij]; exact rest_get_in hl hj
theorem noOw_at : ∀ {is : List Nat}, noOw e is = true → ∀ j ∈ is, ∀ d, e[j]? ≠ some (.ow d)
  | i :: is, h, j, hj, d, q => by
    unfold noOw at h
    rw [List.all_cons, Bool.and_eq_true] at h
    rcases List.mem_cons.mp hj with rfl | hj
    · rw [q] at h; exact nomatch h.1
    · exact noOw_at (is := is) h.2 j hj d q
/-- the names get back what they held ahead of a comprehension -/
theorem EnvOk.rest (E0 : EnvOk K Z e σ H) (hno : noOw e is = true) (E1 : EnvOk K (fun b => Z b ∨ b = D0) (wipeE e1 is) (L2.wipe σ is) H1) (hD : H D0 = none)
    (hk : Keeps (Own e σ) H H1) (ho : ∀ a, Own (wipeE e1 is) (L2.wipe σ is) a → Own e σ a) : EnvOk K (fun b => Z b ∨ b = D0) (RF.rest e e1 is) σ H1 ∧ ∀ a, Own (RF.rest e e1 is) σ a → Own (wipeE e1 is) (L2.wipe σ is) a := by
  have hl : e1.length = e.length := by
    have h1 := E1.len
    rw [wipeE_len, wipe_length] at h1
    rw [h1, E0.len]
  have own' : ∀ a, Own (RF.rest e e1 is) σ a → Own (wipeE e1 is) (L2.wipe σ is) a := fun a ⟨i, d, h1, h2⟩ => by
    by_cases hi : i ∈ is
    · rw [rest_get_in hl hi] at h1
      exact absurd h1 (noOw_at hno i hi d)
    · rw [rest_get_out hi] at h1
      exact ⟨i, d, by rw [wipeE_get hi]; exact h1, by rw [wipe_get hi]; exact h2⟩
  have fr : ∀ b o, Free (fun b => Z b ∨ b = D0) (wipeE e1 is) (L2.wipe σ is) b → H1 b = some o → Free (fun b => Z b ∨ b = D0) (RF.rest e e1 is) σ b ∧ H1 b = some o := fun b o f x => ⟨⟨f.1, fun z => f.2 (own' b z)⟩, x⟩
  have fr0 : ∀ b o, Free Z e σ b → H b = some o → Free (fun b => Z b ∨ b = D0) (RF.rest e e1 is) σ b ∧ H1 b = some o := fun b o f x =>
    ⟨⟨fun z => z.elim f.1 fun q => (by rw [q, hD] at x; cases x), fun z => f.2 (ho b (own' b z))⟩, hk b o x f.2⟩
  refine ⟨⟨by rw [rest_len, hl]; exact E0.len, fun j d h => ?_, fun j d h => ?_, fun j k d d' a h1 h2 h3 h4 => ?_, E1.dom⟩, own'⟩
  · by_cases hj : j ∈ is
    · rw [rest_get_in hl hj] at h
      obtain ⟨v, h1, h2⟩ := E0.sh j d h
      exact ⟨v, h1, h2.mono fr0⟩
    · rw [rest_get_out hj] at h
      obtain ⟨v, h1, h2⟩ := E1.sh j d (by rw [wipeE_get hj]; exact h)
      rw [wipe_get hj] at h1
      exact ⟨v, h1, h2.mono fr⟩
  · by_cases hj : j ∈ is
    · rw [rest_get_in hl hj] at h
      exact absurd h (noOw_at hno j hj d)
    · rw [rest_get_out hj] at h
      obtain ⟨v, h1, h2, h3⟩ := E1.ow j d (by rw [wipeE_get hj]; exact h)
      rw [wipe_get hj] at h1
      exact ⟨v, h1, h2, h3.mono fr fun _ x => x⟩
  · have nj : ∀ {j : Nat} {d : D}, (RF.rest e e1 is)[j]? = some (.ow d) → j ∉ is := fun {j d} q z => by
      rw [rest_get_in hl z] at q
      exact noOw_at hno j z d q
    have j1 := nj h1
    have k1 := nj h2
    rw [rest_get_out j1] at h1
    rw [rest_get_out k1] at h2
    exact E1.inj j k d d' a (by rw [wipeE_get j1]; exact h1) (by rw [wipeE_get k1]; exact h2) (by rw [wipe_get j1]; exact h3) (by rw [wipe_get k1]; exact h4)
/-- a new object is kept aside -/
theorem EnvOk.new_aside {o : HO} (E : EnvOk K Z e σ H) (n : H D0 = none) : EnvOk K (fun b => Z b ∨ b = D0) e σ (upd H D0 o) := by
  have fr : ∀ b u, Free Z e σ b → H b = some u → Free (fun b => Z b ∨ b = D0) e σ b ∧ upd H D0 o b = some u := fun b u f x =>
    ⟨⟨fun z => z.elim f.1 fun q => (by rw [q, n] at x; cases x), f.2⟩, grow_upd n b u x⟩
  refine ⟨E.len, fun j d h => ?_, fun j d h => ?_, E.inj, fun b y => ?_⟩
  · obtain ⟨v, h1, h2⟩ := E.sh j d h
    exact ⟨v, h1, h2.mono fr⟩
  · obtain ⟨a, h1, h2, h3⟩ := E.ow j d h
    exact ⟨a, h1, fun z => z.elim h2 fun q => (E.new_free n).2 ⟨j, d, h, by rw [← q]; exact h1⟩, h3.mono fr fun u x => grow_upd n a u x⟩
  · rcases y with y | rfl
    · obtain ⟨u, x⟩ := E.dom b y
      exact ⟨u, grow_upd n b u x⟩
    · exact ⟨o, upd_same⟩
/-- what is kept aside may be written -/
theorem EnvOk.upd_aside {o : HO} (E : EnvOk K Z e σ H) (z : Z D0) : EnvOk K Z e σ (upd H D0 o) := by
  have ne : ∀ b u, Free Z e σ b → H b = some u → Free Z e σ b ∧ upd H D0 o b = some u := fun b u f x => by
    have n : b ≠ D0 := fun q => f.1 (by rw [q]; exact z)
    exact ⟨f, by rw [upd_ne n]; exact x⟩
  refine ⟨E.len, fun j d h => ?_, fun j d h => ?_, E.inj, fun b y => ?_⟩
  · obtain ⟨v, h1, h2⟩ := E.sh j d h
    exact ⟨v, h1, h2.mono ne⟩
  · obtain ⟨a, h1, h2, h3⟩ := E.ow j d h
    have n : a ≠ D0 := fun q => h2 (by rw [q]; exact z)
    exact ⟨a, h1, h2, h3.mono ne fun u x => by rw [upd_ne n]; exact x⟩
  · by_cases hb : b = D0
    · exact ⟨o, by rw [hb]; exact upd_same⟩
    · obtain ⟨u, x⟩ := E.dom b y
      exact ⟨u, by rw [upd_ne hb]; exact x⟩
end
abbrev rIfs (X : Cx) (Wn : WN) (G : Sig) (call : Nat → List Sl → Res (Sl × List Sl)) (ie : I) : TT := rT X Wn G call ie
/-- one turn of a comprehension -/
def lcStep (G : Sig) (call : Nat → List Sl → Res (Sl × List Sl)) (own : List Nat) (tg ifs x : I) (d : D) (e1 : Env) : RF.R := match take tg d (wipeE e1 own) with
  | some e2 => (tstOf (ev G call ifs e2)).bind fun r => if r.1 = true then (valOf (ev G call x r.2)).bind fun s => (ofO s.1.d).bind fun y => .ok (.opt (some y), s.2) else .ok (.opt none, r.2)
  | none => .bad
section
variable {X : Cx} {G : Sig} {call : Nat → List Sl → Res (Sl × List Sl)} {Wn : WN} {own : List Nat} {tg it ifs x : I}
theorem val_lc {e : Env} : valOf (ev G call (.lc own tg it ifs x) e) = (itsOf (ev G call it e)).bind fun q => if noOw q.2 own then
    (lcL (lcStep G call own tg ifs x) q.1 q.2).bind fun p => if p.1.length < sizeLine then .ok (.ow (.lst p.1), rest q.2 p.2 own) else .bad
    else .bad := by
  rw [ev]
  cases itsOf (ev G call it e) with
  | bad => rfl
  | ex c => rfl
  | ok q =>
    simp only [Res.bind_ok]
    by_cases hn : noOw q.2 own = true
    · rw [if_pos hn, if_pos hn]
      show valOf ((lcL (lcStep G call own tg ifs x) q.1 q.2).bind _) = _
      cases lcL (lcStep G call own tg ifs x) q.1 q.2 with
      | bad => rfl
      | ex c => rfl
      | ok p => simp only [Res.bind_ok]; split <;> rfl
    · rw [if_neg hn, if_neg hn]; rfl
/-- the reading of a comprehension -/
theorem lc_read {K : PySem.W.Frag} {wi : TI} {g : TG} {tt : TT} {te : TE} {Wn' : WN} {Z : Addr → Prop} {en : Env} {σ : St} {H : Hp} {Q : VK} (hs : ∀ i ∈ slots tg, i ∈ own)
    (hwi : ∀ σ H R, tI K Wn (fun e => itsOf (ev G call it e)) σ H R → wi σ H R) (hg : ∀ v σ H Q, tG K tg v σ H Q → g v σ H Q)
    (ht : ∀ σ H Q, tT K Wn' (fun e => tstOf (ev G call ifs e)) σ H Q → tt σ H Q) (he : ∀ σ H Q, tE K Wn' (fun e => valOf (ev G call x e)) σ H Q → te σ H Q)
    (E : EnvOk K Z en σ H) (q : EW K Z en σ H (Wn σ) (valOf (ev G call (.lc own tg it ifs x) en)) Q) : tLc wi g tt te own σ H Q := by
  rw [val_lc] at q
  refine hwi _ _ _ ⟨Z, en, E, ?_⟩
  show IW K Z en σ H (Wn σ) (itsOf (ev G call it en)) _
  cases hi : itsOf (ev G call it en) with
  | bad => rw [hi] at q; exact q.elim
  | ex c => rw [hi] at q; exact q
  | ok p =>
    obtain ⟨ds, e1⟩ := p
    rw [hi] at q
    simp only [Res.bind_ok] at q
    intro J H1 S W D0 nD
    by_cases hn : noOw e1 own = true
    · rw [if_pos hn] at q
      cases hL : lcL (lcStep G call own tg ifs x) ds e1 with
      | bad => rw [hL] at q; exact q.elim
      | ex c =>
        -- a turn that raises has no meaning
        exfalso
        have : ∀ (ds : List D) (e : Env), lcL (lcStep G call own tg ifs x) ds e ≠ .ex c := by
          intro ds
          induction ds with
          | nil => intro e h; cases h
          | cons d ds ih =>
            intro e h
            rw [lcL] at h
            split at h
            · rename_i o e' _
              cases h2 : lcL (lcStep G call own tg ifs x) ds e' with
              | ok p => rw [h2] at h; cases h
              | bad => rw [h2] at h; cases h
              | ex c' => rw [h2] at h; simp only [Res.bind_ex] at h; exact ih e' (by rw [h2]; exact h)
            · cases h
        exact this ds e1 hL
      | ok p =>
        obtain ⟨out, en2⟩ := p
        rw [hL] at q
        simp only [Res.bind_ok] at q
        by_cases hz : out.length < sizeLine
        · rw [if_pos hz] at q
          have E1 := S.env
          have ZD : ∀ b, Z b → H1 b ≠ none := fun b z => by obtain ⟨o, x⟩ := E1.dom b z; rw [x]; exact fun h => nomatch h
          have nZ : ¬ Z D0 := fun z => ZD D0 z nD
          have fD : Free Z e1 σ D0 := E1.new_free nD
          -- what holds ahead of turn i
          refine ⟨fun i m Hc => m = ds.length - i ∧ i ≤ ds.length ∧ ∃ (ei : Env) (acc : List V) (ad rs : List D), lcL (lcStep G call own tg ifs x) (ds.drop i) ei = .ok (rs, en2) ∧ out = ad ++ rs ∧
            EnvOk K (fun b => Z b ∨ b = D0) (wipeE ei own) (wipe σ own) Hc ∧ Hc D0 = some (.lst acc) ∧ Reps K (Free (fun b => Z b ∨ b = D0) (wipeE ei own) (wipe σ own)) Hc acc ad ∧
            Keeps (Own e1 σ) H1 Hc ∧ ∀ a, Own (wipeE ei own) (wipe σ own) a → Own e1 σ a, ⟨ds.length, by simp, Nat.zero_le _, e1, [], [], out, hL, rfl, ?_, upd_same, .nil, ?_, fun a => own_wipe⟩, ?_⟩
          · exact E1.wipe.new_aside nD
          · exact fun a o x _ => grow_upd nD a o x
          · rintro i m Hc ⟨rfl, hi2, ei, acc, ad, rs, hl, hout, Ei, hD, hR, hK, hO⟩
            have stand : ∀ a o, Free Z e1 σ a → H1 a = some o → Hc a = some o := fun a o f x => hK a o x f.2
            by_cases hlt : i < ds.length
            · -- a turn
              obtain ⟨d, hd⟩ : ∃ d, ds[i]? = some d := ⟨ds[i], List.getElem?_eq_getElem hlt⟩
              have hdrop : ds.drop i = d :: ds.drop (i + 1) := by
                rw [List.drop_eq_getElem_cons hlt]
                rw [List.getElem?_eq_getElem hlt] at hd
                rw [Option.some.inj hd]
              rw [hdrop, lcL] at hl
              obtain ⟨hgo, hy⟩ := W.go i d Hc hd stand
              refine .inr ⟨hgo, fun H' => ∃ (ei : Env) (acc : List V) (ad rs : List D), lcL (lcStep G call own tg ifs x) (ds.drop (i + 1)) ei = .ok (rs, en2) ∧ out = ad ++ rs ∧
                EnvOk K (fun b => Z b ∨ b = D0) (wipeE ei own) (wipe σ own) H' ∧ H' D0 = some (.lst acc) ∧ Reps K (Free (fun b => Z b ∨ b = D0) (wipeE ei own) (wipe σ own)) H' acc ad ∧
                Keeps (Own e1 σ) H1 H' ∧ ∀ a, Own (wipeE ei own) (wipe σ own) a → Own e1 σ a, fun H' ⟨ei, acc, ad, rs, k1, k2, k3, k4, k5, k6, k7⟩ => ⟨_, by omega, rfl, by omega, ei, acc, ad, rs, k1, k2, k3, k4, k5, k6, k7⟩, fun v H2 hyl => ?_⟩
              obtain ⟨hgrow, hrep⟩ := hy v H2 hyl
              have Eg : EnvOk K (fun b => Z b ∨ b = D0) (wipeE ei own) (wipe σ own) H2 := Ei.grow hgrow
              have rv : Rep K (Free (fun b => Z b ∨ b = D0) (wipeE ei own) (wipe σ own)) H2 v d := hrep.mono fun b o f y => by
                refine ⟨?_, y⟩
                rcases f with ⟨f, o1, x1⟩ | f
                · exact ⟨fun z => z.elim f.1 fun qb => (by rw [qb, nD] at x1; cases x1), fun z => f.2 (hO b z)⟩
                · exact Ei.new_free f
              have hstep : ∃ o e', lcStep G call own tg ifs x d ei = .ok (.opt o, e') ∧ ∃ r2, lcL (lcStep G call own tg ifs x) (ds.drop (i + 1)) e' = .ok (r2, en2) ∧ rs = o.toList ++ r2 := by
                split at hl
                · rename_i o e' hst
                  refine ⟨o, e', hst, ?_⟩
                  cases h2 : lcL (lcStep G call own tg ifs x) (ds.drop (i + 1)) e' with
                  | bad => rw [h2] at hl; cases hl
                  | ex c => rw [h2] at hl; cases hl
                  | ok p => rw [h2] at hl; cases hl; exact ⟨p.1, rfl, rfl⟩
                · cases hl
              obtain ⟨oo, e', hst, r2, hl2, rfl⟩ := hstep
              unfold lcStep at hst
              cases htk : take tg d (wipeE ei own) with
              | none => rw [htk] at hst; cases hst
              | some e2 =>
                rw [htk] at hst
                simp only at hst
                refine hg _ _ _ _ ⟨_, _, d, e2, Eg, rv, htk, fun σ2 T => ⟨?_, ?_⟩⟩
                · have w1 : wipe σ2 own = wipe (wipe σ own) own := wipe_eq (by rw [T.len]) fun j hj => (T.same j fun z => hj (hs j z)).1
                  have w2 : wipe (wipe σ own) own = wipe σ own := wipe_eq (by rw [wipe_length]) fun j hj => wipe_get hj
                  rw [w1, w2]
                · have w3 : wipe σ2 own = wipe σ own := wipe_eq (by rw [T.len, wipe_length]) fun j hj => by rw [(T.same j fun z => hj (hs j z)).1, wipe_get hj]
                  have zD : (fun b => Z b ∨ b = D0) D0 := .inr rfl
                  have ownT : ∀ a, Own e2 σ2 a → Own e1 σ a := fun a z => hO a (T.own a z)
                  have hR2 : Reps K (Free (fun b => Z b ∨ b = D0) e2 σ2) H2 acc ad := hR.mono fun b o f y => ⟨⟨f.1, fun z => f.2 (T.own b z)⟩, hgrow b o y⟩
                  -- behind the test, behind the element: the list at D0 as it was
                  refine ht _ _ _ ⟨_, e2, T.env, ?_⟩
                  show TW K _ e2 σ2 H2 (Wn' σ2) (tstOf (ev G call ifs e2)) _
                  cases hti : tstOf (ev G call ifs e2) with
                  | bad => rw [hti] at hst; cases hst
                  | ex c => rw [hti] at hst; cases hst
                  | ok p =>
                    obtain ⟨b, e3⟩ := p
                    rw [hti] at hst
                    simp only [Res.bind_ok] at hst
                    intro H3 S3
                    have nO : ¬ Own e2 σ2 D0 := fun z => T.env.own_nz z zD
                    have hD3 : H3 D0 = some (.lst acc) := S3.keep _ _ (hgrow _ _ hD) nO
                    have hR3 : Reps K (Free (fun b => Z b ∨ b = D0) e3 σ2) H3 acc ad := hR2.mono S3.mono
                    have hK3 : Keeps (Own e1 σ) H1 H3 := fun a o y no => S3.keep a o (hgrow a o (hK a o y no)) fun z => no (ownT a z)
                    cases b with
                    | false =>
                      simp only [Bool.false_eq_true, if_false] at hst ⊢
                      cases hst
                      have E4 := S3.env.wipe (is := own)
                      rw [w3] at E4
                      exact ⟨e', acc, ad, r2, hl2, hout, E4, hD3, hR3.mono (fun b o f y => ⟨⟨f.1, fun z => f.2 (own_wipe (by rw [w3]; exact z))⟩, y⟩), hK3, fun a z => ownT a (S3.own a (own_wipe (by rw [w3]; exact z)))⟩
                    | true =>
                      simp only [if_true] at hst ⊢
                      refine he _ _ _ ⟨_, e3, S3.env, ?_⟩
                      show EW K _ e3 σ2 H3 (Wn' σ2) (valOf (ev G call x e3)) _
                      cases hvx : valOf (ev G call x e3) with
                      | bad => rw [hvx] at hst; cases hst
                      | ex c => rw [hvx] at hst; cases hst
                      | ok p =>
                        obtain ⟨s, e4⟩ := p
                        rw [hvx] at hst
                        simp only [Res.bind_ok] at hst
                        intro u H4 S4 r4
                        obtain ⟨y, hy4⟩ := r4.sl
                        rw [hy4] at hst
                        simp only [ofO, Res.bind_ok] at hst
                        cases hst
                        have S5 := S4.down
                        have nO3 : ¬ Own e3 σ2 D0 := fun z => S3.env.own_nz z zD
                        have hD4 : H4 D0 = some (.lst acc) := S5.keep _ _ hD3 nO3
                        have hR4 : Reps K (Free (fun b => Z b ∨ b = D0) e' σ2) H4 (acc ++ [u]) (ad ++ [y]) := (hR3.mono S5.mono).append (.cons (r4.down hy4) .nil)
                        have hlen : acc.length < sizeLine := by
                          have l1 := hR.length
                          rw [hout] at hz
                          rw [l1]
                          have : ad.length ≤ (ad ++ ((some y).toList ++ r2)).length := by simp
                          omega
                        refine ⟨acc, hD4, hlen, ?_⟩
                        have E6 := (S5.env.upd_aside (o := .lst (acc ++ [u])) zD).wipe (is := own)
                        rw [w3] at E6
                        refine ⟨e', acc ++ [u], ad ++ [y], r2, hl2, by rw [hout]; simp, E6, upd_same, hR4.mono (fun b o f z => ⟨⟨f.1, fun w => f.2 (own_wipe (by rw [w3]; exact w))⟩, ?_⟩), fun a o z no => ?_, fun a z => ownT a (S3.own a (S5.own a (own_wipe (by rw [w3]; exact z))))⟩
                        · have n : b ≠ D0 := fun q => f.1 (.inr q)
                          rw [upd_ne n]; exact z
                        · have n : a ≠ D0 := fun q => by rw [q, nD] at z; cases z
                          rw [upd_ne n]
                          exact S5.keep a o (hK3 a o z no) fun w => no (ownT a (S3.own a w))
            · -- the end
              have hie : ds.length ≤ i := by omega
              rw [List.drop_eq_nil_of_le hie, lcL] at hl
              cases hl
              rw [List.append_nil] at hout
              subst hout
              refine .inl ⟨W.stop i Hc hie stand, ?_⟩
              obtain ⟨E7, o7⟩ := E1.rest hn Ei nD hK hO
              refine q _ Hc ⟨E7.less' fun b => zp_iff, S.keep.trans hK fun a _ _ z => S.own a z, fun a z => S.own a (hO a (o7 a z)), fun a z => .inl z, fun a z => ?_⟩ ⟨D0, rfl, nZ, fun z => fD.2 (hO _ (o7 _ z)), acc, hD, hR.mono fun b o f y => ⟨⟨fun z => f.1 (zp_iff.mp z), fun z => f.2 (o7 b z)⟩, y⟩⟩
              rcases zp_iff.mp z with z | rfl
              · exact .inl z
              · exact .inr (S.none_back nD)
        · rw [if_neg hz] at q; exact q.elim
    · rw [if_neg hn] at q; exact q.elim
theorem val_lcO {i : Nat} {e : Env} {ds : List D} (h : e[i]? = some (.ow (.lst ds))) : valOf (ev G call (.lcO own i tg ifs x) e) = if noOw e own then
    (lcOL (lcStep G call own tg ifs x) i G.lim 0 e).bind fun p => if p.1.length < sizeLine then .ok (.ow (.lst p.1), rest e p.2 own) else .bad
    else .bad := by
  rw [ev, h]
  by_cases hn : noOw e own = true
  · rw [if_pos hn, if_pos hn]
    show valOf ((lcOL (lcStep G call own tg ifs x) i G.lim 0 e).bind _) = _
    cases lcOL (lcStep G call own tg ifs x) i G.lim 0 e with
    | bad => rfl
    | ex c => rfl
    | ok p => simp only [Res.bind_ok]; split <;> rfl
  · rw [if_neg hn, if_neg hn]; rfl
theorem val_lcS {i : Nat} {e : Env} {d : D} (h : e[i]? = some (.sh d)) : valOf (ev G call (.lcO own i tg ifs x) e) = valOf (ev G call (.lc own tg (.itV (.var i)) ifs x) e) := by
  rw [val_lc]
  simp only [ev, h, valOf, Res.bind_ok, Sl.d]
  cases seqOf d with
  | none => rfl
  | some ds =>
    simp only [ofO, Res.bind_ok, itsOf]
    by_cases hn : noOw e own = true
    · rw [if_pos hn, if_pos hn]
      show valOf ((lcL (lcStep G call own tg ifs x) ds e).bind _) = _
      cases lcL (lcStep G call own tg ifs x) ds e with
      | bad => rfl
      | ex c => rfl
      | ok p => simp only [Res.bind_ok]; split <;> rfl
    · rw [if_neg hn, if_neg hn]
/-- .. over a list that a name owns -/
theorem lcO_read {K : PySem.W.Frag} {g : TG} {tt : TT} {te : TE} {Wn' : WN} {Z : Addr → Prop} {e1 : Env} {σ : St} {H1 : Hp} {Q : VK} {i0 : Nat} {ds0 : List D} (hs : ∀ i ∈ slots tg, i ∈ own) (hio : i0 ∉ own) (hei : e1[i0]? = some (.ow (.lst ds0)))
    (hg : ∀ v σ H Q, tG K tg v σ H Q → g v σ H Q)
    (ht : ∀ σ H Q, tT K Wn' (fun e => tstOf (ev G call ifs e)) σ H Q → tt σ H Q) (he : ∀ σ H Q, tE K Wn' (fun e => valOf (ev G call x e)) σ H Q → te σ H Q)
    (E1 : EnvOk K Z e1 σ H1) (q : EW K Z e1 σ H1 (Wn σ) (valOf (ev G call (.lcO own i0 tg ifs x) e1)) Q) : tLc (iList K (tVar i0)) g tt te own σ H1 Q := by
  rw [val_lcO hei] at q
  have S : Step K Z Z e1 σ H1 e1 H1 := Step.refl E1
  obtain ⟨a, ha, hza, vs0, hH, _⟩ := E1.ow i0 _ hei
  refine ⟨.ref a, ha, a, rfl, ⟨vs0, SqL.of hH⟩, ?_⟩
  intro D0 nD
  by_cases hn : noOw e1 own = true
  · rw [if_pos hn] at q
    cases hL : lcOL (lcStep G call own tg ifs x) i0 G.lim 0 e1 with
    | bad => rw [hL] at q; exact q.elim
    | ex c =>
      exfalso
      have : ∀ (n k : Nat) (e : Env), lcOL (lcStep G call own tg ifs x) i0 n k e ≠ .ex c := by
        intro n
        induction n with
        | zero => intro k e h; cases h
        | succ n ih =>
          intro k e h
          rw [lcOL] at h
          split at h
          · split at h
            · split at h
              · rename_i o e' _
                cases h2 : lcOL (lcStep G call own tg ifs x) i0 n (k + 1) e' with
                | ok p => rw [h2] at h; cases h
                | bad => rw [h2] at h; cases h
                | ex c' => rw [h2] at h; simp only [Res.bind_ex] at h; exact ih _ e' (by rw [h2]; exact h)
              · cases h
            · cases h
          · cases h
      exact this _ _ e1 hL
    | ok p =>
      obtain ⟨out, en2⟩ := p
      rw [hL] at q
      simp only [Res.bind_ok] at q
      by_cases hz : out.length < sizeLine
      · rw [if_pos hz] at q
        have ZD : ∀ b, Z b → H1 b ≠ none := fun b z => by obtain ⟨o, x⟩ := E1.dom b z; rw [x]; exact fun h => nomatch h
        have nZ : ¬ Z D0 := fun z => ZD D0 z nD
        have fD : Free Z e1 σ D0 := E1.new_free nD
        -- what holds ahead of turn i
        refine ⟨fun i m Hc => ∃ (ei : Env) (acc : List V) (ad rs : List D), lcOL (lcStep G call own tg ifs x) i0 m i ei = .ok (rs, en2) ∧ out = ad ++ rs ∧
          EnvOk K (fun b => Z b ∨ b = D0) (wipeE ei own) (wipe σ own) Hc ∧ Hc D0 = some (.lst acc) ∧ Reps K (Free (fun b => Z b ∨ b = D0) (wipeE ei own) (wipe σ own)) Hc acc ad ∧
          Keeps (Own e1 σ) H1 Hc ∧ ∀ a, Own (wipeE ei own) (wipe σ own) a → Own e1 σ a, ⟨G.lim, e1, [], [], out, hL, rfl, ?_, upd_same, .nil, ?_, fun a => own_wipe⟩, ?_⟩
        · exact E1.wipe.new_aside nD
        · exact fun a o x _ => grow_upd nD a o x
        · rintro i m Hc ⟨ei, acc, ad, rs, hl, hout, Ei, hD, hR, hK, hO⟩
          cases m with
          | zero => cases hl
          | succ m =>
          rw [lcOL] at hl
          have sk : (wipe σ own)[i0]? = some (some (.ref a)) := (wipe_get hio).trans ha
          split at hl
          case h_2 => cases hl
          rename_i dsk hek
          obtain ⟨a2, ha2, hz2, vs, hHk, hRk⟩ := Ei.ow i0 (.lst dsk) ((wipeE_get hio).trans hek)
          rw [sk] at ha2
          cases ha2
          split at hl
          · -- a turn
            rename_i d hdk
            obtain ⟨v0, hv1, rv⟩ := hRk.get hdk
            refine .inr ⟨⟨vs, v0, SqL.of hHk, hv1⟩, fun H' => ∃ (ei : Env) (acc : List V) (ad rs : List D), lcOL (lcStep G call own tg ifs x) i0 m (i + 1) ei = .ok (rs, en2) ∧ out = ad ++ rs ∧
              EnvOk K (fun b => Z b ∨ b = D0) (wipeE ei own) (wipe σ own) H' ∧ H' D0 = some (.lst acc) ∧ Reps K (Free (fun b => Z b ∨ b = D0) (wipeE ei own) (wipe σ own)) H' acc ad ∧
              Keeps (Own e1 σ) H1 H' ∧ ∀ a, Own (wipeE ei own) (wipe σ own) a → Own e1 σ a, fun H' h => ⟨m, Nat.lt_succ_self m, h⟩, fun v H2 hyl => ?_⟩
            obtain ⟨rfl, hyl⟩ := hyl
            have ex := hyl vs (SqL.of hHk)
            rw [hv1] at ex
            cases ex
            have hgrow : ∀ a o, H2 a = some o → H2 a = some o := fun _ _ e => e
            have Eg := Ei
            have hstep : ∃ o e', lcStep G call own tg ifs x d ei = .ok (.opt o, e') ∧ ∃ r2, lcOL (lcStep G call own tg ifs x) i0 m (i + 1) e' = .ok (r2, en2) ∧ rs = o.toList ++ r2 := by
              split at hl
              · rename_i o e' hst
                refine ⟨o, e', hst, ?_⟩
                cases h2 : lcOL (lcStep G call own tg ifs x) i0 m (i + 1) e' with
                | bad => rw [h2] at hl; cases hl
                | ex c => rw [h2] at hl; cases hl
                | ok p => rw [h2] at hl; cases hl; exact ⟨p.1, rfl, rfl⟩
              · cases hl
            obtain ⟨oo, e', hst, r2, hl2, rfl⟩ := hstep
            unfold lcStep at hst
            cases htk : take tg d (wipeE ei own) with
            | none => rw [htk] at hst; cases hst
            | some e2 =>
              rw [htk] at hst
              simp only at hst
              refine hg _ _ _ _ ⟨_, _, d, e2, Eg, rv, htk, fun σ2 T => ⟨?_, ?_⟩⟩
              · have w1 : wipe σ2 own = wipe (wipe σ own) own := wipe_eq (by rw [T.len]) fun j hj => (T.same j fun z => hj (hs j z)).1
                have w2 : wipe (wipe σ own) own = wipe σ own := wipe_eq (by rw [wipe_length]) fun j hj => wipe_get hj
                rw [w1, w2]
              · have w3 : wipe σ2 own = wipe σ own := wipe_eq (by rw [T.len, wipe_length]) fun j hj => by rw [(T.same j fun z => hj (hs j z)).1, wipe_get hj]
                have zD : (fun b => Z b ∨ b = D0) D0 := .inr rfl
                have ownT : ∀ a, Own e2 σ2 a → Own e1 σ a := fun a z => hO a (T.own a z)
                have hR2 : Reps K (Free (fun b => Z b ∨ b = D0) e2 σ2) H2 acc ad := hR.mono fun b o f y => ⟨⟨f.1, fun z => f.2 (T.own b z)⟩, hgrow b o y⟩
                -- behind the test, behind the element: the list at D0 as it was
                refine ht _ _ _ ⟨_, e2, T.env, ?_⟩
                show TW K _ e2 σ2 H2 (Wn' σ2) (tstOf (ev G call ifs e2)) _
                cases hti : tstOf (ev G call ifs e2) with
                | bad => rw [hti] at hst; cases hst
                | ex c => rw [hti] at hst; cases hst
                | ok p =>
                  obtain ⟨b, e3⟩ := p
                  rw [hti] at hst
                  simp only [Res.bind_ok] at hst
                  intro H3 S3
                  have nO : ¬ Own e2 σ2 D0 := fun z => T.env.own_nz z zD
                  have hD3 : H3 D0 = some (.lst acc) := S3.keep _ _ (hgrow _ _ hD) nO
                  have hR3 : Reps K (Free (fun b => Z b ∨ b = D0) e3 σ2) H3 acc ad := hR2.mono S3.mono
                  have hK3 : Keeps (Own e1 σ) H1 H3 := fun a o y no => S3.keep a o (hgrow a o (hK a o y no)) fun z => no (ownT a z)
                  cases b with
                  | false =>
                    simp only [Bool.false_eq_true, if_false] at hst ⊢
                    cases hst
                    have E4 := S3.env.wipe (is := own)
                    rw [w3] at E4
                    exact ⟨e', acc, ad, r2, hl2, hout, E4, hD3, hR3.mono (fun b o f y => ⟨⟨f.1, fun z => f.2 (own_wipe (by rw [w3]; exact z))⟩, y⟩), hK3, fun a z => ownT a (S3.own a (own_wipe (by rw [w3]; exact z)))⟩
                  | true =>
                    simp only [if_true] at hst ⊢
                    refine he _ _ _ ⟨_, e3, S3.env, ?_⟩
                    show EW K _ e3 σ2 H3 (Wn' σ2) (valOf (ev G call x e3)) _
                    cases hvx : valOf (ev G call x e3) with
                    | bad => rw [hvx] at hst; cases hst
                    | ex c => rw [hvx] at hst; cases hst
                    | ok p =>
                      obtain ⟨s, e4⟩ := p
                      rw [hvx] at hst
                      simp only [Res.bind_ok] at hst
                      intro u H4 S4 r4
                      obtain ⟨y, hy4⟩ := r4.sl
                      rw [hy4] at hst
                      simp only [ofO, Res.bind_ok] at hst
                      cases hst
                      have S5 := S4.down
                      have nO3 : ¬ Own e3 σ2 D0 := fun z => S3.env.own_nz z zD
                      have hD4 : H4 D0 = some (.lst acc) := S5.keep _ _ hD3 nO3
                      have hR4 : Reps K (Free (fun b => Z b ∨ b = D0) e' σ2) H4 (acc ++ [u]) (ad ++ [y]) := (hR3.mono S5.mono).append (.cons (r4.down hy4) .nil)
                      have hlen : acc.length < sizeLine := by
                        have l1 := hR.length
                        rw [hout] at hz
                        rw [l1]
                        have : ad.length ≤ (ad ++ ((some y).toList ++ r2)).length := by simp
                        omega
                      refine ⟨acc, hD4, hlen, ?_⟩
                      have E6 := (S5.env.upd_aside (o := .lst (acc ++ [u])) zD).wipe (is := own)
                      rw [w3] at E6
                      refine ⟨e', acc ++ [u], ad ++ [y], r2, hl2, by rw [hout]; simp, E6, upd_same, hR4.mono (fun b o f z => ⟨⟨f.1, fun w => f.2 (own_wipe (by rw [w3]; exact w))⟩, ?_⟩), fun a o z no => ?_, fun a z => ownT a (S3.own a (S5.own a (own_wipe (by rw [w3]; exact z))))⟩
                      · have n : b ≠ D0 := fun q => f.1 (.inr q)
                        rw [upd_ne n]; exact z
                      · have n : a ≠ D0 := fun q => by rw [q, nD] at z; cases z
                        rw [upd_ne n]
                        exact S5.keep a o (hK3 a o z no) fun w => no (ownT a (S3.own a w))
          · -- the end
            rename_i hdk
            cases hl
            rw [List.append_nil] at hout
            subst hout
            have hl2 : dsk.length ≤ i := by
              rcases Nat.lt_or_ge i dsk.length with z | z
              · rw [List.getElem?_eq_getElem z] at hdk; cases hdk
              · exact z
            refine .inl ⟨⟨vs, SqL.of hHk, by rw [hRk.length]; exact hl2⟩, ?_⟩
            obtain ⟨E7, o7⟩ := E1.rest hn Ei nD hK hO
            refine q _ Hc ⟨E7.less' fun b => zp_iff, S.keep.trans hK fun a _ _ z => S.own a z, fun a z => S.own a (hO a (o7 a z)), fun a z => .inl z, fun a z => ?_⟩ ⟨D0, rfl, nZ, fun z => fD.2 (hO _ (o7 _ z)), acc, hD, hR.mono fun b o f y => ⟨⟨fun z => f.1 (zp_iff.mp z), fun z => f.2 (o7 b z)⟩, y⟩⟩
            rcases zp_iff.mp z with z | rfl
            · exact .inl z
            · exact .inr (S.none_back nD)
      · rw [if_neg hz] at q; exact q.elim
  · rw [if_neg hn] at q; exact q.elim
end
end RF


namespace RF
open PySem PySem.Spec PyProof.Rows L2
/-! RFK2: comprehensions of two clauses -/
section
variable {X : Cx} {G : Sig} {call : Nat → List Sl → Res (Sl × List Sl)} {Wn : WN} {own own1 : List Nat} {tg it ifs tg1 it1 ifs1 x : I}
/-- one turn of a comprehension's last clause; the list that is filled stands at D0 -/
theorem lc_turn {K : PySem.W.Frag} {g : TG} {tt : TT} {te : TE} {Wn' : WN} {ZD : Addr → Prop} {ei e' : Env} {σ0 : St} {H2 : Hp} {D0 : Addr} {d : D} {v : V} {oo : Option D} {acc : List V} {ad : List D} {Nx : Hp → Prop} (hs : ∀ i ∈ slots tg, i ∈ own)
    (hg : ∀ v σ H Q, tG K tg v σ H Q → g v σ H Q) (ht : ∀ σ H Q, tT K Wn' (fun e => tstOf (ev G call ifs e)) σ H Q → tt σ H Q) (he : ∀ σ H Q, tE K Wn' (fun e => valOf (ev G call x e)) σ H Q → te σ H Q)
    (zD : ZD D0) (Eg : EnvOk K ZD (wipeE ei own) (wipe σ0 own) H2) (rv : Rep K (Free ZD (wipeE ei own) (wipe σ0 own)) H2 v d) (hst : lcStep G call own tg ifs x d ei = .ok (.opt oo, e')) (hD : H2 D0 = some (.lst acc)) (hR : Reps K (Free ZD (wipeE ei own) (wipe σ0 own)) H2 acc ad) (hlen : acc.length < sizeLine)
    (fin : ∀ (Hn : Hp) (accn : List V), EnvOk K ZD (wipeE e' own) (wipe σ0 own) Hn → Hn D0 = some (.lst accn) → Reps K (Free ZD (wipeE e' own) (wipe σ0 own)) Hn accn (ad ++ oo.toList) → (∀ a o, a ≠ D0 → H2 a = some o → ¬ Own (wipeE ei own) (wipe σ0 own) a → Hn a = some o) →
      (∀ a, Own (wipeE e' own) (wipe σ0 own) a → Own (wipeE ei own) (wipe σ0 own) a) → Nx Hn) :
    g v (wipe σ0 own) H2 fun σ2 H2' => wipe σ2 own = wipe σ0 own ∧ tt σ2 H2' fun b H3 => if b = true then te σ2 H3 fun y H4 => ∃ acc, H4 D0 = some (.lst acc) ∧ acc.length < sizeLine ∧ Nx (upd H4 D0 (.lst (acc ++ [y]))) else Nx H3 := by
  unfold lcStep at hst
  cases htk : take tg d (wipeE ei own) with
  | none => rw [htk] at hst; cases hst
  | some e2 =>
    rw [htk] at hst
    simp only at hst
    refine hg _ _ _ _ ⟨_, _, d, e2, Eg, rv, htk, fun σ2 T => ?_⟩
    have w3 : wipe σ2 own = wipe σ0 own := wipe_eq (by rw [T.len, wipe_length]) fun j hj => by rw [(T.same j fun z => hj (hs j z)).1, wipe_get hj]
    refine ⟨w3, ?_⟩
    have hR2 : Reps K (Free ZD e2 σ2) H2 acc ad := hR.mono fun b o f y => ⟨⟨f.1, fun z => f.2 (T.own b z)⟩, y⟩
    refine ht _ _ _ ⟨_, e2, T.env, ?_⟩
    show TW K _ e2 σ2 H2 (Wn' σ2) (tstOf (ev G call ifs e2)) _
    cases hti : tstOf (ev G call ifs e2) with
    | bad => rw [hti] at hst; cases hst
    | ex c => rw [hti] at hst; cases hst
    | ok p =>
      obtain ⟨b, e3⟩ := p
      rw [hti] at hst
      simp only [Res.bind_ok] at hst
      intro H3 S3
      have nO : ¬ Own e2 σ2 D0 := fun z => T.env.own_nz z zD
      have hD3 : H3 D0 = some (.lst acc) := S3.keep _ _ hD nO
      have hR3 : Reps K (Free ZD e3 σ2) H3 acc ad := hR2.mono S3.mono
      cases b with
      | false =>
        simp only [Bool.false_eq_true, if_false] at hst ⊢
        cases hst
        have E4 := S3.env.wipe (is := own)
        rw [w3] at E4
        exact fin H3 acc E4 hD3 (by rw [Option.toList_none, List.append_nil]; exact hR3.mono fun b o f y => ⟨⟨f.1, fun z => f.2 (own_wipe (by rw [w3]; exact z))⟩, y⟩) (fun a o _ y no => S3.keep a o y fun z => no (T.own a z)) fun a z => T.own a (S3.own a (own_wipe (by rw [w3]; exact z)))
      | true =>
        simp only [if_true] at hst ⊢
        refine he _ _ _ ⟨_, e3, S3.env, ?_⟩
        show EW K _ e3 σ2 H3 (Wn' σ2) (valOf (ev G call x e3)) _
        cases hvx : valOf (ev G call x e3) with
        | bad => rw [hvx] at hst; cases hst
        | ex c => rw [hvx] at hst; cases hst
        | ok p =>
          obtain ⟨s, e4⟩ := p
          rw [hvx] at hst
          simp only [Res.bind_ok] at hst
          intro u H4 S4 r4
          obtain ⟨y, hy4⟩ := r4.sl
          rw [hy4] at hst
          simp only [ofO, Res.bind_ok] at hst
          cases hst
          have S5 := S4.down
          have nO3 : ¬ Own e3 σ2 D0 := fun z => S3.env.own_nz z zD
          have hD4 : H4 D0 = some (.lst acc) := S5.keep _ _ hD3 nO3
          have hR4 : Reps K (Free ZD e' σ2) H4 (acc ++ [u]) (ad ++ [y]) := (hR3.mono S5.mono).append (.cons (r4.down hy4) .nil)
          refine ⟨acc, hD4, hlen, ?_⟩
          have E6 := (S5.env.upd_aside (o := .lst (acc ++ [u])) zD).wipe (is := own)
          rw [w3] at E6
          refine fin _ (acc ++ [u]) E6 upd_same (hR4.mono fun b o f z => ⟨⟨f.1, fun w => f.2 (own_wipe (by rw [w3]; exact w))⟩, ?_⟩) (fun a o n z no => ?_) fun a z => T.own a (S3.own a (S5.own a (own_wipe (by rw [w3]; exact z))))
          · have n : b ≠ D0 := fun q => f.1 (by rw [q]; exact zD)
            rw [upd_ne n]; exact z
          · rw [upd_ne n]
            exact S5.keep a o (S3.keep a o z fun w => no (T.own a w)) fun w => no (T.own a (S3.own a w))
def lc2Step (G : Sig) (call : Nat → List Sl → Res (Sl × List Sl)) (own own1 : List Nat) (tg ifs tg1 it1 ifs1 x : I) (d : D) (e1 : Env) : Res (List D × Env) := match take tg d (wipeE e1 own) with
  | some e2 => (tstOf (ev G call ifs e2)).bind fun r => if r.1 = true then (itsOf (ev G call it1 r.2)).bind fun q1 => lcL (lcStep G call own1 tg1 ifs1 x) q1.1 q1.2 else .ok ([], r.2)
  | none => .bad
theorem val_lc2 {e : Env} : valOf (ev G call (.lc2 own own1 tg it ifs tg1 it1 ifs1 x) e) = (itsOf (ev G call it e)).bind fun q => if noOw q.2 own then
    (lcL2 (lc2Step G call own own1 tg ifs tg1 it1 ifs1 x) q.1 q.2).bind fun p => if p.1.length < sizeLine then .ok (.ow (.lst p.1), rest q.2 p.2 own) else .bad
    else .bad := by
  rw [ev]
  cases itsOf (ev G call it e) with
  | bad => rfl
  | ex c => rfl
  | ok q =>
    simp only [Res.bind_ok]
    by_cases hn : noOw q.2 own = true
    · rw [if_pos hn, if_pos hn]
      show valOf ((lcL2 (lc2Step G call own own1 tg ifs tg1 it1 ifs1 x) q.1 q.2).bind _) = _
      cases lcL2 (lc2Step G call own own1 tg ifs tg1 it1 ifs1 x) q.1 q.2 with
      | bad => rfl
      | ex c => rfl
      | ok p => simp only [Res.bind_ok]; split <;> rfl
    · rw [if_neg hn, if_neg hn]; rfl
theorem lcL_no {step : D → Env → R} {c : Str} : ∀ (ds : List D) (e : Env), lcL step ds e ≠ .ex c
  | [], e, h => nomatch h
  | d :: ds, e, h => by
    rw [lcL] at h
    split at h
    · rename_i o e' _
      cases h2 : lcL step ds e' with
      | ok p => rw [h2] at h; cases h
      | bad => rw [h2] at h; cases h
      | ex c' => rw [h2] at h; cases h; exact lcL_no ds e' h2
    · cases h
theorem lcL2_no {step : D → Env → Res (List D × Env)} {c : Str} : ∀ (ds : List D) (e : Env), lcL2 step ds e ≠ .ex c
  | [], e, h => nomatch h
  | d :: ds, e, h => by
    rw [lcL2] at h
    split at h
    · rename_i o e' _
      cases h2 : lcL2 step ds e' with
      | ok p => rw [h2] at h; cases h
      | bad => rw [h2] at h; cases h
      | ex c' => rw [h2] at h; cases h; exact lcL2_no ds e' h2
    · cases h
/-- a turn of lcL taken apart -/
theorem lcL_cons {step : D → Env → R} {d : D} {ds rs : List D} {e en : Env} (h : lcL step (d :: ds) e = .ok (rs, en)) : ∃ o e' r2, step d e = .ok (.opt o, e') ∧ lcL step ds e' = .ok (r2, en) ∧ rs = o.toList ++ r2 := by
  rw [lcL] at h
  split at h
  · rename_i o e' hst
    cases h2 : lcL step ds e' with
    | bad => rw [h2] at h; cases h
    | ex c => rw [h2] at h; cases h
    | ok p => rw [h2] at h; cases h; exact ⟨o, e', p.1, hst, h2, rfl⟩
  · cases h
theorem lcL2_cons {step : D → Env → Res (List D × Env)} {d : D} {ds rs : List D} {e en : Env} (h : lcL2 step (d :: ds) e = .ok (rs, en)) : ∃ o e' r2, step d e = .ok (o, e') ∧ lcL2 step ds e' = .ok (r2, en) ∧ rs = o ++ r2 := by
  rw [lcL2] at h
  split at h
  · rename_i o e' hst
    cases h2 : lcL2 step ds e' with
    | bad => rw [h2] at h; cases h
    | ex c => rw [h2] at h; cases h
    | ok p => rw [h2] at h; cases h; exact ⟨o, e', p.1, hst, h2, rfl⟩
  · cases h
theorem wipeE_out {e : Env} {is js : List Nat} (h : ∀ i ∈ is, i ∈ js) : wipeE (wipeE e is) js = wipeE e js := by
  apply List.ext_getElem?
  intro j
  by_cases hj : j ∈ js
  · cases h1 : (wipeE (wipeE e is) js)[j]? with
    | none =>
      cases h2 : (wipeE e js)[j]? with
      | none => rfl
      | some s =>
        have l2 := (List.getElem?_eq_some_iff.mp h2).1
        rw [wipeE_len] at l2
        rw [List.getElem?_eq_none_iff, wipeE_len, wipeE_len] at h1
        omega
    | some s =>
      have e1 := wipeE_in hj h1
      have l1 := (List.getElem?_eq_some_iff.mp h1).1
      rw [wipeE_len, wipeE_len] at l1
      have l2 : j < (wipeE e js).length := by rw [wipeE_len]; exact l1
      have h2 : (wipeE e js)[j]? = some (wipeE e js)[j] := List.getElem?_eq_getElem l2
      rw [h2, e1, wipeE_in hj h2]
  · rw [wipeE_get hj, wipeE_get hj, wipeE_get fun z => hj (h j z)]
/-- the reading of a comprehension of two clauses -/
theorem lc2_read {K : PySem.W.Frag} {wi wi1 : TI} {g g1 : TG} {tt tt1 : TT} {te : TE} {Wn' : WN} {Z : Addr → Prop} {en : Env} {σ : St} {H : Hp} {Q : VK} (hs : ∀ i ∈ slots tg, i ∈ own) (hs1 : ∀ i ∈ slots tg1, i ∈ own1) (h01 : ∀ i ∈ own1, i ∈ own)
    (hwi : ∀ σ H R, tI K Wn (fun e => itsOf (ev G call it e)) σ H R → wi σ H R) (hg : ∀ v σ H Q, tG K tg v σ H Q → g v σ H Q) (ht : ∀ σ H Q, tT K Wn' (fun e => tstOf (ev G call ifs e)) σ H Q → tt σ H Q)
    (hwi1 : ∀ σ H R, tI K Wn' (fun e => itsOf (ev G call it1 e)) σ H R → wi1 σ H R) (hg1 : ∀ v σ H Q, tG K tg1 v σ H Q → g1 v σ H Q) (ht1 : ∀ σ H Q, tT K Wn' (fun e => tstOf (ev G call ifs1 e)) σ H Q → tt1 σ H Q) (he : ∀ σ H Q, tE K Wn' (fun e => valOf (ev G call x e)) σ H Q → te σ H Q)
    (E : EnvOk K Z en σ H) (q : EW K Z en σ H (Wn σ) (valOf (ev G call (.lc2 own own1 tg it ifs tg1 it1 ifs1 x) en)) Q) : tLc2 wi g tt wi1 g1 tt1 te own own1 σ H Q := by
  rw [val_lc2] at q
  refine hwi _ _ _ ⟨Z, en, E, ?_⟩
  show IW K Z en σ H (Wn σ) (itsOf (ev G call it en)) _
  cases hi : itsOf (ev G call it en) with
  | bad => rw [hi] at q; exact q.elim
  | ex c => rw [hi] at q; exact q
  | ok p =>
    obtain ⟨ds, e1⟩ := p
    rw [hi] at q
    simp only [Res.bind_ok] at q
    intro J H1 S W D0 nD
    by_cases hn : noOw e1 own = true
    case neg => rw [if_neg hn] at q; exact q.elim
    rw [if_pos hn] at q
    cases hL : lcL2 (lc2Step G call own own1 tg ifs tg1 it1 ifs1 x) ds e1 with
    | bad => rw [hL] at q; exact q.elim
    | ex c => exact absurd hL (lcL2_no _ _)
    | ok p =>
      obtain ⟨out, en2⟩ := p
      rw [hL] at q
      simp only [Res.bind_ok] at q
      by_cases hz : out.length < sizeLine
      case neg => rw [if_neg hz] at q; exact q.elim
      rw [if_pos hz] at q
      have E1 := S.env
      have nZ : ¬ Z D0 := fun z => by obtain ⟨o, y⟩ := E1.dom D0 z; rw [nD] at y; cases y
      have fD : Free Z e1 σ D0 := E1.new_free nD
      refine ⟨fun i m Hc => m = ds.length - i ∧ i ≤ ds.length ∧ ∃ (ei : Env) (acc : List V) (ad rs : List D), lcL2 (lc2Step G call own own1 tg ifs tg1 it1 ifs1 x) (ds.drop i) ei = .ok (rs, en2) ∧ out = ad ++ rs ∧
        EnvOk K (fun b => Z b ∨ b = D0) (wipeE ei own) (wipe σ own) Hc ∧ Hc D0 = some (.lst acc) ∧ Reps K (Free (fun b => Z b ∨ b = D0) (wipeE ei own) (wipe σ own)) Hc acc ad ∧
        Keeps (Own e1 σ) H1 Hc ∧ ∀ a, Own (wipeE ei own) (wipe σ own) a → Own e1 σ a, ⟨ds.length, by simp, Nat.zero_le _, e1, [], [], out, hL, rfl, ?_, upd_same, .nil, ?_, fun a => own_wipe⟩, ?_⟩
      · exact E1.wipe.new_aside nD
      · exact fun a o y _ => grow_upd nD a o y
      · rintro i m Hc ⟨rfl, hi2, ei, acc, ad, rs, hl, hout, Ei, hD, hR, hK, hO⟩
        have stand : ∀ a o, Free Z e1 σ a → H1 a = some o → Hc a = some o := fun a o f y => hK a o y f.2
        by_cases hlt : i < ds.length
        case neg =>
          have hie : ds.length ≤ i := by omega
          rw [List.drop_eq_nil_of_le hie, lcL2] at hl
          cases hl
          rw [List.append_nil] at hout
          subst hout
          refine .inl ⟨W.stop i Hc hie stand, ?_⟩
          obtain ⟨E7, o7⟩ := E1.rest hn Ei nD hK hO
          refine q _ Hc ⟨E7.less' fun b => zp_iff, S.keep.trans hK fun a _ _ z => S.own a z, fun a z => S.own a (hO a (o7 a z)), fun a z => .inl z, fun a z => ?_⟩ ⟨D0, rfl, nZ, fun z => fD.2 (hO _ (o7 _ z)), acc, hD, hR.mono fun b o f y => ⟨⟨fun z => f.1 (zp_iff.mp z), fun z => f.2 (o7 b z)⟩, y⟩⟩
          rcases zp_iff.mp z with z | z
          · exact .inl z
          · subst z
            rcases S.none_back nD with y | y
            · exact .inr (.inl y)
            · exact .inr (.inr y)
        obtain ⟨d, hd⟩ : ∃ d, ds[i]? = some d := ⟨ds[i], List.getElem?_eq_getElem hlt⟩
        have hdrop : ds.drop i = d :: ds.drop (i + 1) := by
          rw [List.drop_eq_getElem_cons hlt]
          rw [List.getElem?_eq_getElem hlt] at hd
          rw [Option.some.inj hd]
        rw [hdrop] at hl
        obtain ⟨o, e', r2, hst, hl2, rfl⟩ := lcL2_cons hl
        obtain ⟨hgo, hy⟩ := W.go i d Hc hd stand
        refine .inr ⟨hgo, fun H' => ∃ (ei : Env) (acc : List V) (ad rs : List D), lcL2 (lc2Step G call own own1 tg ifs tg1 it1 ifs1 x) (ds.drop (i + 1)) ei = .ok (rs, en2) ∧ out = ad ++ rs ∧
            EnvOk K (fun b => Z b ∨ b = D0) (wipeE ei own) (wipe σ own) H' ∧ H' D0 = some (.lst acc) ∧ Reps K (Free (fun b => Z b ∨ b = D0) (wipeE ei own) (wipe σ own)) H' acc ad ∧
            Keeps (Own e1 σ) H1 H' ∧ ∀ a, Own (wipeE ei own) (wipe σ own) a → Own e1 σ a, fun H' ⟨ei, acc, ad, rs, k1, k2, k3, k4, k5, k6, k7⟩ => ⟨_, by omega, rfl, by omega, ei, acc, ad, rs, k1, k2, k3, k4, k5, k6, k7⟩, fun v H2 hyl => ?_⟩
        obtain ⟨hgrow, hrep⟩ := hy v H2 hyl
        have Eg : EnvOk K (fun b => Z b ∨ b = D0) (wipeE ei own) (wipe σ own) H2 := Ei.grow hgrow
        have rv : Rep K (Free (fun b => Z b ∨ b = D0) (wipeE ei own) (wipe σ own)) H2 v d := hrep.mono fun b o f y => by
          refine ⟨?_, y⟩
          rcases f with ⟨f, o1, x1⟩ | f
          · exact ⟨fun z => z.elim f.1 fun qb => (by rw [qb, nD] at x1; cases x1), fun z => f.2 (hO b z)⟩
          · exact Ei.new_free f
        unfold lc2Step at hst
        cases htk : take tg d (wipeE ei own) with
        | none => rw [htk] at hst; cases hst
        | some e2 =>
          rw [htk] at hst
          simp only at hst
          refine hg _ _ _ _ ⟨_, _, d, e2, Eg, rv, htk, fun σ2 T => ?_⟩
          have w3 : wipe σ2 own = wipe σ own := wipe_eq (by rw [T.len, wipe_length]) fun j hj => by rw [(T.same j fun z => hj (hs j z)).1, wipe_get hj]
          refine ⟨w3, ?_⟩
          have zD : (fun b => Z b ∨ b = D0) D0 := .inr rfl
          have ownT : ∀ a, Own e2 σ2 a → Own e1 σ a := fun a z => hO a (T.own a z)
          have hR2 : Reps K (Free (fun b => Z b ∨ b = D0) e2 σ2) H2 acc ad := hR.mono fun b o f y => ⟨⟨f.1, fun z => f.2 (T.own b z)⟩, hgrow b o y⟩
          refine ht _ _ _ ⟨_, e2, T.env, ?_⟩
          show TW K _ e2 σ2 H2 (Wn' σ2) (tstOf (ev G call ifs e2)) _
          cases hti : tstOf (ev G call ifs e2) with
          | bad => rw [hti] at hst; cases hst
          | ex c => rw [hti] at hst; cases hst
          | ok p =>
            obtain ⟨b, e3⟩ := p
            rw [hti] at hst
            simp only [Res.bind_ok] at hst
            intro H3 S3
            have nO : ¬ Own e2 σ2 D0 := fun z => T.env.own_nz z zD
            have hD3 : H3 D0 = some (.lst acc) := S3.keep _ _ (hgrow _ _ hD) nO
            have hR3 : Reps K (Free (fun b => Z b ∨ b = D0) e3 σ2) H3 acc ad := hR2.mono S3.mono
            have hK3 : Keeps (Own e1 σ) H1 H3 := fun a o y no => S3.keep a o (hgrow a o (hK a o y no)) fun z => no (ownT a z)
            have own3 : ∀ a, Own e3 σ2 a → Own e1 σ a := fun a z => ownT a (S3.own a z)
            cases b with
            | false =>
              simp only [Bool.false_eq_true, if_false] at hst ⊢
              cases hst
              have E4 := S3.env.wipe (is := own)
              rw [w3] at E4
              exact ⟨e', acc, ad, r2, hl2, hout, E4, hD3, hR3.mono (fun b o f y => ⟨⟨f.1, fun z => f.2 (own_wipe (by rw [w3]; exact z))⟩, y⟩), hK3, fun a z => own3 a (own_wipe (by rw [w3]; exact z))⟩
            | true =>
              simp only [if_true] at hst ⊢
              refine hwi1 _ _ _ ⟨_, e3, S3.env, ?_⟩
              show IW K _ e3 σ2 H3 (Wn' σ2) (itsOf (ev G call it1 e3)) _
              cases hi1 : itsOf (ev G call it1 e3) with
              | bad => rw [hi1] at hst; cases hst
              | ex c => rw [hi1] at hst; cases hst
              | ok p =>
                obtain ⟨ds1, e4⟩ := p
                rw [hi1] at hst
                simp only [Res.bind_ok] at hst
                intro J1 H4 S4 W1
                have nO3 : ¬ Own e3 σ2 D0 := fun z => S3.env.own_nz z zD
                have own4 : ∀ a, Own e4 σ2 a → Own e1 σ a := fun a z => own3 a (S4.own a z)
                have E4 := S4.env
                refine ⟨fun j k Hj => k = ds1.length - j ∧ j ≤ ds1.length ∧ ∃ (ej : Env) (accj : List V) (adj rsj : List D), lcL (lcStep G call own1 tg1 ifs1 x) (ds1.drop j) ej = .ok (rsj, e') ∧ o = adj ++ rsj ∧
                  EnvOk K (fun b => Z b ∨ b = D0) (wipeE ej own1) (wipe σ2 own1) Hj ∧ Hj D0 = some (.lst accj) ∧ Reps K (Free (fun b => Z b ∨ b = D0) (wipeE ej own1) (wipe σ2 own1)) Hj accj (ad ++ adj) ∧
                  (∀ a o, a ≠ D0 → H4 a = some o → ¬ Own e4 σ2 a → Hj a = some o) ∧ ∀ a, Own (wipeE ej own1) (wipe σ2 own1) a → Own e4 σ2 a, ⟨ds1.length, by simp, Nat.zero_le _, e4, acc, [], o, hst, rfl, E4.wipe, S4.keep _ _ hD3 nO3, ?_, fun a o _ y _ => y, fun a => own_wipe⟩, ?_⟩
                · rw [List.append_nil]
                  exact (hR3.mono S4.mono).mono fun b o f y => ⟨⟨f.1, fun z => f.2 (own_wipe z)⟩, y⟩
                · rintro j k Hj ⟨rfl, hj2, ej, accj, adj, rsj, hlj, hoj, Ej, hDj, hRj, hKj, hOj⟩
                  have stand1 : ∀ a o, Free (fun b => Z b ∨ b = D0) e4 σ2 a → H4 a = some o → Hj a = some o := fun a o f y => hKj a o (fun z => f.1 (.inr z)) y f.2
                  by_cases hlt1 : j < ds1.length
                  case neg =>
                    have hje : ds1.length ≤ j := by omega
                    rw [List.drop_eq_nil_of_le hje, lcL] at hlj
                    cases hlj
                    rw [List.append_nil] at hoj
                    subst hoj
                    refine .inl ⟨W1.stop j Hj hje stand1, ?_⟩
                    have w4 : wipe (wipe σ2 own1) own = wipe σ own := (wipe_eq (by rw [wipe_length]) fun i hi => wipe_get fun z => hi (h01 i z)).trans w3
                    have E8 := Ej.wipe (is := own)
                    rw [wipeE_out h01, w4] at E8
                    have o8 : ∀ a, Own (wipeE e' own) (wipe σ own) a → Own (wipeE e' own1) (wipe σ2 own1) a := fun a z => own_wipe (is := own) (by rw [wipeE_out h01, w4]; exact z)
                    exact ⟨e', accj, ad ++ o, r2, hl2, by rw [hout, List.append_assoc], E8, hDj, hRj.mono fun b o f y => ⟨⟨f.1, fun z => f.2 (o8 b z)⟩, y⟩, fun a o y no => hKj a o (fun z => by rw [z, nD] at y; cases y) (S4.keep a o (hK3 a o y no) fun z => no (own3 a z)) fun z => no (own4 a z), fun a z => own4 a (hOj a (o8 a z))⟩
                  obtain ⟨d1, hd1⟩ : ∃ d1, ds1[j]? = some d1 := ⟨ds1[j], List.getElem?_eq_getElem hlt1⟩
                  have hdrop1 : ds1.drop j = d1 :: ds1.drop (j + 1) := by
                    rw [List.drop_eq_getElem_cons hlt1]
                    rw [List.getElem?_eq_getElem hlt1] at hd1
                    rw [Option.some.inj hd1]
                  rw [hdrop1] at hlj
                  obtain ⟨oo, e'', r3, hst1, hl3, rfl⟩ := lcL_cons hlj
                  obtain ⟨hgo1, hy1⟩ := W1.go j d1 Hj hd1 stand1
                  refine .inr ⟨hgo1, fun H' => ∃ (ej : Env) (accj : List V) (adj rsj : List D), lcL (lcStep G call own1 tg1 ifs1 x) (ds1.drop (j + 1)) ej = .ok (rsj, e') ∧ o = adj ++ rsj ∧
                    EnvOk K (fun b => Z b ∨ b = D0) (wipeE ej own1) (wipe σ2 own1) H' ∧ H' D0 = some (.lst accj) ∧ Reps K (Free (fun b => Z b ∨ b = D0) (wipeE ej own1) (wipe σ2 own1)) H' accj (ad ++ adj) ∧
                    (∀ a o, a ≠ D0 → H4 a = some o → ¬ Own e4 σ2 a → H' a = some o) ∧ ∀ a, Own (wipeE ej own1) (wipe σ2 own1) a → Own e4 σ2 a, fun H' ⟨ej, accj, adj, rsj, k1, k2, k3, k4, k5, k6, k7⟩ => ⟨_, by omega, rfl, by omega, ej, accj, adj, rsj, k1, k2, k3, k4, k5, k6, k7⟩, fun v1 H5 hyl1 => ?_⟩
                  obtain ⟨hgrow1, hrep1⟩ := hy1 v1 H5 hyl1
                  have Eg1 : EnvOk K (fun b => Z b ∨ b = D0) (wipeE ej own1) (wipe σ2 own1) H5 := Ej.grow hgrow1
                  have rv1 : Rep K (Free (fun b => Z b ∨ b = D0) (wipeE ej own1) (wipe σ2 own1)) H5 v1 d1 := hrep1.mono fun b o f y => by
                    refine ⟨?_, y⟩
                    rcases f with ⟨f, _⟩ | f
                    · exact ⟨f.1, fun z => f.2 (hOj b z)⟩
                    · exact Ej.new_free f
                  have hlen : accj.length < sizeLine := by
                    have l1 := hRj.length
                    rw [hout, hoj] at hz
                    rw [l1]
                    simp only [List.length_append] at hz ⊢
                    omega
                  refine lc_turn hs1 hg1 ht1 he zD Eg1 rv1 hst1 (hgrow1 _ _ hDj) (hRj.mono fun b o f y => ⟨f, hgrow1 b o y⟩) hlen fun Hn accn k1 k2 k3 k4 k5 => ?_
                  refine ⟨e'', accn, adj ++ oo.toList, r3, hl3, by rw [hoj, List.append_assoc], k1, k2, by rw [← List.append_assoc]; exact k3, fun a o n y no => k4 a o n (hgrow1 a o (hKj a o n y no)) fun z => no (hOj a z), fun a z => hOj a (k5 a z)⟩
end
end RF


namespace RF
open PySem PySem.Spec PyProof.Rows L2
/-- from e, σ, H to e', σ', H', storing the names is alone -/
structure Run (K : PySem.W.Frag) (Z Zf : Addr → Prop) (is : List Nat) (e : Env) (σ : St) (H : Hp) (e' : Env) (σ' : St) (H' : Hp) : Prop where
  env : EnvOk K Zf e' σ' H'
  keep : Keeps (Own e σ) H H'
  own : ∀ a, Own e' σ' a → Own e σ a ∨ H a = none
  zsub : ∀ a, Z a → Zf a
  new : ∀ a, Zf a → Z a ∨ H a = none ∨ Own e σ a
  len : σ'.length = σ.length
  same : ∀ i, i ∉ is → σ'[i]? = σ[i]?
section
variable {K : PySem.W.Frag} {Z Z1 Z2 Zf : Addr → Prop} {is js : List Nat} {e e1 e2 : Env} {σ σ1 σ2 : St} {H H1 H2 : Hp} {v : V} {s : Sl} {d : D} {i : Nat}
theorem Step.run (S : Step K Z Zf e σ H e1 H1) : Run K Z Zf is e σ H e1 σ H1 := ⟨S.env, S.keep, fun a z => .inl (S.own a z), S.zsub, S.new, rfl, fun _ _ => rfl⟩
theorem Run.none_back (S : Run K Z Z1 is e σ H e1 σ1 H1) {a : Addr} (h : H1 a = none) : H a = none ∨ Own e σ a := by
  by_cases o : Own e σ a
  · exact .inr o
  · cases q : H a with
    | none => exact .inl rfl
    | some u => rw [S.keep a u q o] at h; cases h
theorem Run.keep2 (S : Run K Z Z1 is e σ H e1 σ1 H1) (k : Keeps (Own e1 σ1) H1 H2) : Keeps (Own e σ) H H2 := S.keep.trans k fun a o x z => (S.own a z).elim id fun n => by rw [n] at x; cases x
theorem Run.trans (S : Run K Z Z1 is e σ H e1 σ1 H1) (T : Run K Z1 Z2 is e1 σ1 H1 e2 σ2 H2) : Run K Z Z2 is e σ H e2 σ2 H2 := by
  refine ⟨T.env, S.keep2 T.keep, fun a z => ?_, fun a z => T.zsub a (S.zsub a z), fun a z => ?_, T.len.trans S.len, fun i hi => (T.same i hi).trans (S.same i hi)⟩
  · rcases T.own a z with z | z
    · exact S.own a z
    · exact (S.none_back z).symm
  · rcases T.new a z with z | z | z
    · exact S.new a z
    · exact .inr (S.none_back z)
    · exact .inr (S.own a z).symm
theorem Run.wider (S : Run K Z Zf is e σ H e1 σ1 H1) (h : ∀ i ∈ is, i ∈ js) : Run K Z Zf js e σ H e1 σ1 H1 := ⟨S.env, S.keep, S.own, S.zsub, S.new, S.len, fun i hi => S.same i fun z => hi (h i z)⟩
/-- a value is given to a name -/
theorem Run.give (S : Run K Z (Zp Z v s) is e σ H e1 σ1 H1) (r : VOk K Z e1 σ1 H1 v s) (hi : i < e1.length) (h : i ∈ is) : Run K Z Z is e σ H (e1.set i s) (σ1.set i (some v)) H1 := by
  refine ⟨S.env.give r hi, S.keep, fun a z => ?_, fun _ z => z, fun _ z => .inl z, by rw [List.length_set]; exact S.len, fun j hj => ?_⟩
  · rcases own_give z with z | z
    · exact S.own a z
    · rcases S.new a (.inr z) with y | y | y
      · -- it would be aside already
        cases s with
        | ow d =>
          obtain ⟨b, e3, nz, _⟩ := r
          have : v = .ref a := z
          rw [this] at e3; cases e3
          exact absurd y nz
        | _ => exact z.elim
      · exact .inr y
      · exact .inl y
  · have hij : i ≠ j := fun q => hj (by rw [← q]; exact h)
    rw [List.getElem?_set_ne hij]; exact S.same j hj
end
def SW (K : PySem.W.Frag) (Z : Addr → Prop) (is : List Nat) (e : Env) (σ : St) (H : Hp) (Wn : WN) (r : Res (Fl × Env)) (D : Ends) : Prop :=
  match r with
  | .ok (.nx, e') => ∀ σ' H', Run K Z Z is e σ H e' σ' H' → D.nx σ' H'
  | .ok (.bk, e') => ∀ σ' H', Run K Z Z is e σ H e' σ' H' → D.bk σ' H'
  | .ok (.ct, e') => ∀ σ' H', Run K Z Z is e σ H e' σ' H' → D.ct σ' H'
  | .ok (.rt s, e') => ∀ v σ' H', Run K Z (Zp Z v s) is e σ H e' σ' H' → VOk K Z e' σ' H' v s → D.rt v H'
  | .ex c => ∀ σ' H', Keeps (Own e σ) H H' → σ'.length = σ.length → (∀ i, i ∉ is → σ'[i]? = σ[i]?) → Wn σ' c H'
  | .bad => False
def tS (K : PySem.W.Frag) (Wn : WN) (is : List Nat) (r : Env → Res (Fl × Env)) : TS := fun D σ H => ∃ Z e, EnvOk K Z e σ H ∧ SW K Z is e σ H Wn (r e) D
abbrev rS (X : Cx) (Wn : WN) (G : Sig) (call : Nat → List Sl → Res (Sl × List Sl)) (is : List Nat) (ie : I) : TS := tS X.K Wn is (fun e => flOf (ev G call ie e))
section
variable {K : PySem.W.Frag} {Z : Addr → Prop} {is js : List Nat} {e e1 : Env} {σ σ1 : St} {H H1 : Hp} {Wn : WN} {r : Res (Fl × Env)} {D : Ends}
/-- .. after a run -/
theorem SW.after (T : Run K Z Z is e σ H e1 σ1 H1) (q : SW K Z is e σ H Wn r D) : SW K Z is e1 σ1 H1 Wn r D := by
  cases r with
  | bad => exact q
  | ex c => exact fun σ' H' k l m => q σ' H' (T.keep2 k) (l.trans T.len) fun i hi => (m i hi).trans (T.same i hi)
  | ok p =>
    obtain ⟨f, e'⟩ := p
    cases f with
    | nx => exact fun σ' H' S => q σ' H' (T.trans S)
    | bk => exact fun σ' H' S => q σ' H' (T.trans S)
    | ct => exact fun σ' H' S => q σ' H' (T.trans S)
    | rt s => exact fun v σ' H' S w => q v σ' H' (T.trans S) w
theorem SW.narrow (h : ∀ i ∈ js, i ∈ is) (q : SW K Z is e σ H Wn r D) : SW K Z js e σ H Wn r D := by
  cases r with
  | bad => exact q
  | ex c => exact fun σ' H' k l m => q σ' H' k l fun i hi => m i fun z => hi (h i z)
  | ok p =>
    obtain ⟨f, e'⟩ := p
    cases f with
    | nx => exact fun σ' H' S => q σ' H' (S.wider h)
    | bk => exact fun σ' H' S => q σ' H' (S.wider h)
    | ct => exact fun σ' H' S => q σ' H' (S.wider h)
    | rt s => exact fun v σ' H' S w => q v σ' H' (S.wider h) w
/-- a value, then a statement's rest -/
theorem ew_bindS {f : Sl × Env → Res (Fl × Env)} {r : Res (Sl × Env)} {R : VK} (h : SW K Z is e σ H Wn (r.bind f) D)
    (k : ∀ s e1 v H1, Step K Z (Zp Z v s) e σ H e1 H1 → VOk K Z e1 σ H1 v s → SW K Z is e1 σ H1 Wn (f (s, e1)) D → f (s, e1) = r.bind f → R v H1) : EW K Z e σ H (Wn σ) r R := by
  cases r with
  | bad => exact h
  | ex c => exact fun H' q => h σ H' q rfl fun _ _ => rfl
  | ok p =>
    obtain ⟨s, e1⟩ := p
    exact fun v H1 S r => k s e1 v H1 S r (SW.after S.down.run h) rfl
theorem tw_bindS {f : Bool × Env → Res (Fl × Env)} {r : Res (Bool × Env)} {R : Bool → Hp → Prop} (h : SW K Z is e σ H Wn (r.bind f) D)
    (k : ∀ b e1 H1, Step K Z Z e σ H e1 H1 → SW K Z is e1 σ H1 Wn (f (b, e1)) D → R b H1) : TW K Z e σ H (Wn σ) r R := by
  cases r with
  | bad => exact h
  | ex c => exact fun H' q => h σ H' q rfl fun _ _ => rfl
  | ok p =>
    obtain ⟨s, e1⟩ := p
    exact fun H1 S => k s e1 H1 S (SW.after S.run h)
end
section
variable {X : Cx} {G : Sig} {call : Nat → List Sl → Res (Sl × List Sl)} {Wn : WN} {is : List Nat} {ja jb jc je : I} {pos : Pos} {st : Stmt} {sts : List Stmt} {v c : Expr}
theorem pss_skip : PSs X [] (rS X Wn G call is .skip) := pss_imp pss_nil fun D σ H ⟨Z, e, E, q⟩ => by
  have q' : SW X.K Z is e σ H Wn (flOf (ev G call .skip e)) D := q
  rw [ev] at q'
  exact q' σ H (Step.refl E).run
theorem fl_seq {e : Env} : flOf (ev G call (.seq ja jb) e) = (flOf (ev G call ja e)).bind fun q => match q.1 with
    | .nx => flOf (ev G call jb q.2)
    | f => .ok (f, q.2) := by
  rw [ev]
  cases flOf (ev G call ja e) with
  | bad => rfl
  | ex c => rfl
  | ok q =>
    obtain ⟨f, e1⟩ := q
    cases f <;> rfl
theorem pss_seq (h1 : PS X st (rS X Wn G call is ja)) (h2 : PSs X sts (rS X Wn G call is jb)) : PSs X (st :: sts) (rS X Wn G call is (.seq ja jb)) := by
  refine pss_imp (pss_cons h1 h2) fun D σ H ⟨Z, e, E, q⟩ => ⟨Z, e, E, ?_⟩
  have q' : SW X.K Z is e σ H Wn (flOf (ev G call (.seq ja jb) e)) D := q
  rw [fl_seq] at q'
  show SW X.K Z is e σ H Wn (flOf (ev G call ja e)) _
  cases hr : flOf (ev G call ja e) with
  | bad => rw [hr] at q'; exact q'
  | ex c => rw [hr] at q'; exact q'
  | ok p =>
    rw [hr] at q'
    obtain ⟨f, e1⟩ := p
    cases f with
    | nx => exact fun σ' H' S => ⟨Z, e1, S.env, SW.after S q'⟩
    | bk => exact q'
    | ct => exact q'
    | rt s => exact q'
theorem s_exs (h : PE X v (rE X Wn G call ja)) (hs : swapsWith v none pos.line X.env = pure false) : PS X (.Expr v pos) (rS X Wn G call is (.exs ja)) := by
  refine ps_imp (ps_expr h hs) fun D σ H ⟨Z, e, E, q⟩ => ⟨Z, e, E, ?_⟩
  have q' : SW X.K Z is e σ H Wn (flOf (ev G call (.exs ja) e)) D := q
  rw [ev] at q'
  have q2 : SW X.K Z is e σ H Wn ((valOf (ev G call ja e)).bind fun q => .ok (.nx, q.2)) D := by
    cases hr : valOf (ev G call ja e) <;> rw [hr] at q' <;> exact q'
  exact ew_bindS q2 fun s e1 u H1 S r q _ => q σ H1 (Step.refl S.env.let_go).run
theorem s_ret (h : PE X v (rE X Wn G call ja)) : PS X (.Return (some v) pos) (rS X Wn G call is (.ret ja)) := by
  refine ps_imp (ps_ret h) fun D σ H ⟨Z, e, E, q⟩ => ⟨Z, e, E, ?_⟩
  have q' : SW X.K Z is e σ H Wn (flOf (ev G call (.ret ja) e)) D := q
  rw [ev] at q'
  show EW X.K Z e σ H (Wn σ) (valOf (ev G call ja e)) _
  cases hr : valOf (ev G call ja e) with
  | bad => rw [hr] at q'; exact q'
  | ex c => rw [hr] at q'; exact fun H' k => q' σ H' k rfl fun _ _ => rfl
  | ok p => rw [hr] at q'; exact fun u H1 S r => q' u σ H1 S.run r
theorem s_retN : PS X (.Return none pos) (rS X Wn G call is .retN) := ps_imp ps_retN fun D σ H ⟨Z, e, E, q⟩ => by
  have q' : SW X.K Z is e σ H Wn (flOf (ev G call .retN e)) D := q
  rw [ev] at q'
  exact q' .non σ H (Step.refl E).zsh.run .non
theorem s_brk : PS X (.Break pos) (rS X Wn G call is .brk) := ps_imp ps_break fun D σ H ⟨Z, e, E, q⟩ => by
  have q' : SW X.K Z is e σ H Wn (flOf (ev G call .brk e)) D := q
  rw [ev] at q'
  exact q' σ H (Step.refl E).run
theorem s_cnt : PS X (.Continue pos) (rS X Wn G call is .cnt) := ps_imp ps_continue fun D σ H ⟨Z, e, E, q⟩ => by
  have q' : SW X.K Z is e σ H Wn (flOf (ev G call .cnt e)) D := q
  rw [ev] at q'
  exact q' σ H (Step.refl E).run
theorem s_pas : PS X (.Pass pos) (rS X Wn G call is .pas) := ps_imp ps_pass fun D σ H ⟨Z, e, E, q⟩ => by
  have q' : SW X.K Z is e σ H Wn (flOf (ev G call .pas e)) D := q
  rw [ev] at q'
  exact q' σ H (Step.refl E).run
theorem s_if {a b : List Stmt} (hc : PT X c (rT X Wn G call jc)) (ha : PSs X a (rS X Wn G call is ja)) (hb : PSs X b (rS X Wn G call is jb)) : PS X (.If c a b pos) (rS X Wn G call is (.ifS jc ja jb)) := by
  refine ps_imp (ps_if hc ha hb) fun D σ H ⟨Z, e, E, q⟩ => ⟨Z, e, E, ?_⟩
  have q' : SW X.K Z is e σ H Wn (flOf (ev G call (.ifS jc ja jb) e)) D := q
  rw [ev] at q'
  have q2 : SW X.K Z is e σ H Wn ((tstOf (ev G call jc e)).bind fun q => if q.1 = true then flOf (ev G call ja q.2) else flOf (ev G call jb q.2)) D := by
    cases hr : tstOf (ev G call jc e) with
    | bad => rw [hr] at q'; exact q'
    | ex c => rw [hr] at q'; exact q'
    | ok p =>
      rw [hr] at q'
      obtain ⟨k, e1⟩ := p
      cases k <;> exact q'
  refine tw_bindS q2 fun k e1 H1 S q => ?_
  cases k with
  | true => exact ⟨Z, e1, S.env, q⟩
  | false => exact ⟨Z, e1, S.env, q⟩
/-- an assignment to a name, whatever the value's rule -/
theorem asg_read {te : TE} {i : Nat} (hi : i ∈ is) (h : ∀ σ H Q, rE X Wn G call ja σ H Q → te σ H Q) (D : Ends) (σ : St) (H : Hp) (q : rS X Wn G call is (.asg (.tN i) ja) D σ H) : tAsg te (gName i) D σ H := by
  obtain ⟨Z, e, E, q⟩ := q
  refine h _ _ _ ⟨Z, e, E, ?_⟩
  have q' : SW X.K Z is e σ H Wn (flOf (ev G call (.asg (.tN i) ja) e)) D := q
  rw [ev] at q'
  have q2 : SW X.K Z is e σ H Wn ((valOf (ev G call ja e)).bind fun q => if i < q.2.length then .ok (.nx, q.2.set i q.1) else .bad) D := by
    cases hr : valOf (ev G call ja e) with
    | bad => rw [hr] at q'; exact q'
    | ex c => rw [hr] at q'; exact q'
    | ok p =>
      rw [hr] at q'
      simp only [Res.bind_ok] at q' ⊢
      by_cases hl : i < p.2.length
      · rw [if_pos hl] at q' ⊢; exact q'
      · rw [if_neg hl] at q' ⊢; exact q'
  show EW X.K Z e σ H (Wn σ) (valOf (ev G call ja e)) _
  cases hr : valOf (ev G call ja e) with
  | bad => rw [hr] at q2; exact q2
  | ex c => rw [hr] at q2; exact fun H' k => q2 σ H' k rfl fun _ _ => rfl
  | ok p =>
    obtain ⟨s, e1⟩ := p
    rw [hr] at q2
    simp only [Res.bind_ok] at q2
    intro u H1 S r
    by_cases hl : i < e1.length
    · rw [if_pos hl] at q2
      exact q2 _ H1 (Run.give S.run r hl hi)
    · rw [if_neg hl] at q2; exact q2.elim
theorem s_asg {i : Nat} {x : Str} {p : Pos} (hN : X.N.Nodup) (hx : X.N[i]? = some x) (hl : Loc X.env.scope x) (hf : X.fn x = true ∨ X.env.scope.names.lookup x = some .local) (hi : i ∈ is) (h : PE X v (rE X Wn G call ja))
    (hs : swapsWith v (some (.Name x p)) pos.line X.env = pure false) : PS X (.Assign [.Name x p] v pos) (rS X Wn G call is (.asg (.tN i) ja)) :=
  ps_imp (ps_set hN hx hl h hs hf) (asg_read hi fun _ _ _ q => q)
theorem s_asgT {tg : Expr} {t : I} (ht : ∀ i, t ≠ .tN i) (hi : ∀ i ∈ slots t, i ∈ is) (h : PE X v (rE X Wn G call ja)) (hg : PG X tg (tG X.K t)) (hs : swapsWithSole [tg] v pos.line X.env = pure false) (hw : swappedStores [tg] v X.env = pure none)
    (h1 : (assignEach [tg] X.env).map (·.2) = [assign tg X.env]) : PS X (.Assign [tg] v pos) (rS X Wn G call is (.asg t ja)) := by
  refine ps_imp (ps_asg h hg hs hw h1) fun D σ H ⟨Z, e, E, q⟩ => ⟨Z, e, E, ?_⟩
  have q' : SW X.K Z is e σ H Wn (flOf (ev G call (.asg t ja) e)) D := q
  rw [ev] at q'
  have q2 : SW X.K Z is e σ H Wn ((valOf (ev G call ja e)).bind fun q => (ofO q.1.d).bind fun d => (ofO (take t d q.2)).bind fun e' => .ok (.nx, e')) D := by
    cases hr : valOf (ev G call ja e) with
    | bad => rw [hr] at q'; exact q'
    | ex c => rw [hr] at q'; exact q'
    | ok p =>
      rw [hr] at q'
      simp only [Res.bind_ok] at q' ⊢
      cases t <;> first | (exact absurd rfl (ht _)) | skip
      all_goals
        cases hd : p.1.d with
        | none => rw [hd] at q'; exact q'
        | some d =>
          rw [hd] at q'
          simp only [ofO, Res.bind_ok] at q' ⊢
          generalize hh : take _ d p.2 = tk at q' ⊢
          cases tk with
          | none => exact q'
          | some e' => exact q'
  refine ew_bindS q2 fun s e1 u H1 S r q _ => ?_
  obtain ⟨d, hd⟩ := r.sl
  simp only [hd, ofO, Res.bind_ok] at q
  cases htk : take t d e1 with
  | none => rw [htk] at q; exact q.elim
  | some e' =>
    rw [htk] at q
    refine ⟨Z, e1, d, e', S.env.let_go, r.down hd, htk, fun σ' T => q σ' H1 ⟨T.env, .refl, fun a z => .inl (T.own a z), fun _ z => z, fun _ z => .inl z, T.len, fun i hn => (T.same i fun z => hn (hi i z)).1⟩⟩
theorem ip_ok {op : Operator} : PIp X op (fun x y H Q => ∃ i j k, x = .int i ∧ y = .int j ∧ augI op i j = some k ∧ Q (.int k) H) := by
  intro pins s σ H x y v u Q I rx ry h
  obtain ⟨i, j, k, rfl, rfl, e, h⟩ := h
  cases op <;> first | exact nomatch (show (none : Option Int) = some _ from e) | skip
  · cases e; exact ip_add pins s σ H _ _ v u Q I rx ry ⟨i, j, rfl, rfl, h⟩
  · cases e; exact ip_sub pins s σ H _ _ v u Q I rx ry ⟨i, j, rfl, rfl, h⟩
theorem s_aug {i : Nat} {x : Str} {p : Pos} {op : Operator} (hN : X.N.Nodup) (hx : X.N[i]? = some x) (hl : Loc X.env.scope x) (hf : X.fn x = true ∨ X.env.scope.names.lookup x = some .local) (hi : i ∈ is) (h : PE X v (rE X Wn G call ja)) :
    PS X (.AugAssign (.Name x p) op v pos) (rS X Wn G call is (.aug i op ja)) := by
  refine ps_imp (ps_aug hN hx hl h ip_ok hf) fun D σ H ⟨Z, e, E, q⟩ => ?_
  have q' : SW X.K Z is e σ H Wn (flOf (ev G call (.aug i op ja) e)) D := q
  rw [ev] at q'
  cases hs : e[i]? with
  | none => rw [hs] at q'; exact q'.elim
  | some sl =>
    rw [hs] at q'
    cases sl with
    | un => exact q'.elim
    | mv => exact q'.elim
    | ow d => exact q'.elim
    | sh d =>
      cases d with
      | int n =>
        obtain ⟨w, h1, h2⟩ := E.sh i _ hs
        cases h2
        refine ⟨_, h1, Z, e, E, ?_⟩
        have q2 : SW X.K Z is e σ H Wn ((valOf (ev G call ja e)).bind fun pp => match pp.1.d with
            | some (.int y) => (ofO (augI op n y)).bind fun z => .ok (.nx, pp.2.set i (.sh (.int z)))
            | _ => .bad) D := by
          cases hr : valOf (ev G call ja e) with
          | bad => rw [hr] at q'; exact q'
          | ex c => rw [hr] at q'; exact q'
          | ok p =>
            rw [hr] at q'
            simp only [Res.bind_ok] at q' ⊢
            split at q'
            · rename_i y e0
              try simp only [e0]
              cases ha : augI op n y with
              | none => rw [ha] at q'; exact q'
              | some z => rw [ha] at q'; exact q'
            · exact q'.elim
        refine ew_bindS q2 fun s e1 u H1 S r q3 _ => ?_
        obtain ⟨d, hd⟩ := r.sl
        simp only [hd] at q3
        have rr := r.down hd
        have hlen : i < e1.length := by
          have l1 := S.env.len
          have l2 := E.len
          have l3 := lt_of_get hs
          omega
        have gv : ∀ m : Int, Run X.K Z Z is e1 σ H1 (e1.set i (.sh (.int m))) (σ.set i (some (.int m))) H1 := fun m =>
          Run.give (Step.zsh (v := .int m) (d := .int m) (Step.refl S.env.let_go)).run (show Rep X.K _ H1 (.int m) (.int m) from .int m) hlen hi
        cases d with
        | int m =>
          cases rr
          simp only at q3
          cases ha : augI op n m with
          | none => rw [ha] at q3; exact q3.elim
          | some z =>
            rw [ha] at q3
            exact ⟨n, m, z, rfl, rfl, ha, q3 _ H1 (gv _)⟩
        | _ => exact q3.elim
      | _ => exact q'.elim
/-! ### lists changed in place -/
theorem Run.change {K : PySem.W.Frag} {Z : Addr → Prop} {e : Env} {σ : St} {H : Hp} {i : Nat} {d d' : D} {a : Addr} {o : HO} (E : EnvOk K Z e σ H) (h : e[i]? = some (.ow d)) (ha : σ[i]? = some (some (.ref a))) (new : OwnAt K (Free Z e σ) (upd H a o) a d') :
    Run K Z Z is e σ H (e.set i (.ow d')) σ (upd H a o) := by
  have oa : Own e σ a := ⟨i, d, h, ha⟩
  refine ⟨E.change h ha new, fun b u x n => ?_, fun b z => ?_, fun _ z => z, fun _ z => .inl z, rfl, fun _ _ => rfl⟩
  · have nb : b ≠ a := fun q => n (by rw [q]; exact oa)
    rw [upd_ne nb]; exact x
  · obtain ⟨k, d2, h1, h2⟩ := z
    rcases set_get h1 with ⟨rfl, q, _⟩ | ⟨_, q⟩
    · exact .inl ⟨i, d, h, h2⟩
    · exact .inl ⟨k, d2, q, h2⟩
theorem reps_upd {K : PySem.W.Frag} {Z : Addr → Prop} {e : Env} {σ : St} {H : Hp} {a : Addr} {o : HO} {vs : List V} {ds : List D} (oa : Own e σ a) (r : Reps K (Free Z e σ) H vs ds) : Reps K (Free Z e σ) (upd H a o) vs ds :=
  r.mono fun b u f x => by
    have nb : b ≠ a := fun q => f.2 (by rw [q]; exact oa)
    exact ⟨f, by rw [upd_ne nb]; exact x⟩
theorem rep_upd {K : PySem.W.Frag} {Z : Addr → Prop} {e : Env} {σ : St} {H : Hp} {a : Addr} {o : HO} {v : V} {d : D} (oa : Own e σ a) (r : Rep K (Free Z e σ) H v d) : Rep K (Free Z e σ) (upd H a o) v d :=
  r.mono fun b u f x => by
    have nb : b ≠ a := fun q => f.2 (by rw [q]; exact oa)
    exact ⟨f, by rw [upd_ne nb]; exact x⟩
theorem s_app {i : Nat} {x : Str} {p ap cp : Pos} (hx : X.N[i]? = some x) (hv : Vis X.env.scope x) (hd : (x == ("__debug__" : Str)) = false) (hcd : (x == ("__classdict__" : Str)) = false) (hst : noStar v = true) (h : PE X v (rE X Wn G call ja)) (hln : (ap.endLine == cp.line) = true) :
    PS X (.Expr (.Call (.Attribute (.Name x p) "append" ap) [v] [] cp) pos) (rS X Wn G call is (.app i ja)) := by
  refine ps_imp (ps_expr (pe_bm PySem.F.plainAttrs_list PySem.F.slot_list_append PySem.F.type_list_append mt_append (pe_var hx hv hd hcd) (pa_cons h pa_nil (star_cons hst)) rfl (by rw [star_cons hst]; rfl) hln (star_cons hst) rfl) rfl) fun D σ H ⟨Z, e, E, q⟩ => ?_
  have q' : SW X.K Z is e σ H Wn (flOf (ev G call (.app i ja) e)) D := q
  rw [ev] at q'
  cases hs : e[i]? with
  | none => rw [hs] at q'; exact q'.elim
  | some sl =>
    rw [hs] at q'
    cases sl with
    | un => exact q'.elim
    | mv => exact q'.elim
    | sh d => exact q'.elim
    | ow d =>
      cases d with
      | lst ds0 =>
        obtain ⟨a0, h1, _, ⟨xs0, h2, _⟩⟩ := E.ow i _ hs
        refine ⟨_, h1, .inl ⟨rfl, xs0, SqL.of h2⟩, Z, e, E, ?_⟩
        have q2 : SW X.K Z is e σ H Wn ((valOf (ev G call ja e)).bind fun q => match q.2[i]?, q.1.d with
            | some (.ow (.lst xs)), some d => if xs.length < sizeLine then .ok (.nx, q.2.set i (.ow (.lst (xs ++ [d])))) else .bad
            | _, _ => .bad) D := by
          cases hr : valOf (ev G call ja e) with
          | bad => rw [hr] at q'; exact q'
          | ex c => rw [hr] at q'; exact q'
          | ok p =>
            rw [hr] at q'
            simp only [Res.bind_ok] at q' ⊢
            split at q'
            · rename_i xs d e1 e2
              try simp only [e1, e2]
              by_cases hz : xs.length < sizeLine
              · rw [if_pos hz] at q' ⊢; exact q'
              · rw [if_neg hz] at q' ⊢; exact q'
            · exact q'.elim
        refine ew_bindS q2 fun s e1 u H1 S r q3 _ => ?_
        obtain ⟨d, hd'⟩ := r.sl
        simp only at q3
        split at q3
        · rename_i xs d2 e3 e4
          rw [hd'] at e4; cases e4
          by_cases hz : xs.length < sizeLine
          · rw [if_pos hz] at q3
            have E1 := S.env.let_go
            obtain ⟨a, k1, k2, k3, vs, k4, k5⟩ := E1.own_at e3
            rw [h1] at k1; cases k1
            refine ⟨a0, vs, u, rfl, rfl, k4, by rw [k5.length]; exact hz, ?_⟩
            exact q3 σ _ (Run.change E1 e3 h1 ⟨vs ++ [u], upd_same, (reps_upd k3 k5).append (.cons (rep_upd k3 (r.down hd')) .nil)⟩)
          · rw [if_neg hz] at q3; exact q3.elim
        · exact q3.elim
      | _ => exact q'.elim
theorem swaps_other {t : Expr} {l : Nat} {env : PySem.Env} (h : ∀ x p, t ≠ .Name x p) : swapsWith v (some t) l env = pure false := by
  cases v <;> cases t <;> first | rfl | exact absurd rfl (h _ _)
def notSlice : Expr → Bool
  | .Slice _ _ _ _ => false
  | _ => true
theorem plainIx_of {k : Expr} (h : notSlice k = true) : PlainIx k := fun o i => by cases k <;> first | rfl | exact nomatch h
theorem s_sti {i : Nat} {x : Str} {k : Expr} {p sp : Pos} (hx : X.N[i]? = some x) (hv : Vis X.env.scope x) (hd : (x == ("__debug__" : Str)) = false) (hcd : (x == ("__classdict__" : Str)) = false) (hks : notSlice k = true) (h : PE X v (rE X Wn G call ja)) (hk : PE X k (rE X Wn G call jb)) :
    PS X (.Assign [.Subscript (.Name x p) k sp] v pos) (rS X Wn G call is (.sti i jb ja)) := by
  have hsub : PG X (.Subscript (.Name x p) k sp) (gSub (tVar i) (rE X Wn G call jb) rSetL) := by
    refine pg_sub (pe_var hx hv hd hcd) hk set_list ?_
    intro v'
    cases k <;> first | rfl | exact nomatch hks
  refine ps_imp (ps_asg h hsub (show swapsWith v (some (.Subscript (.Name x p) k sp)) pos.line X.env = pure false from swaps_other fun _ _ q => nomatch q) (by cases v <;> rfl) rfl) fun D σ H ⟨Z, e, E, q⟩ => ⟨Z, e, E, ?_⟩
  have q' : SW X.K Z is e σ H Wn (flOf (ev G call (.sti i jb ja) e)) D := q
  rw [ev] at q'
  have q2 : SW X.K Z is e σ H Wn ((valOf (ev G call ja e)).bind fun q => match q.2[i]? with
      | some (.ow _) => (valOf (ev G call jb q.2)).bind fun r => (match r.2[i]?, r.1.d, q.1.d with
        | some (.ow (.lst xs)), some (.int j), some d => (match ixN xs.length j with
          | some m => .ok (.nx, r.2.set i (.ow (.lst (xs.set m d))))
          | none => .bad)
        | _, _, _ => .bad)
      | _ => .bad) D := by
    cases hr : valOf (ev G call ja e) with
    | bad => rw [hr] at q'; exact q'
    | ex c => rw [hr] at q'; exact q'
    | ok p =>
      rw [hr] at q'
      simp only [Res.bind_ok] at q' ⊢
      split at q'
      · rename_i d0 e0
        try simp only [e0]
        cases hr2 : valOf (ev G call jb p.2) with
        | bad => rw [hr2] at q'; exact q'
        | ex c => rw [hr2] at q'; exact q'
        | ok p2 =>
          rw [hr2] at q'
          simp only [Res.bind_ok] at q' ⊢
          split at q'
          · rename_i xs j d e1 e2 e3
            try simp only [e1, e2, e3]
            cases hm : ixN xs.length j with
            | none => rw [hm] at q'; exact q'
            | some m => rw [hm] at q'; exact q'
          · exact q'.elim
      · exact q'.elim
  refine ew_bindS q2 fun s e1 u H1 S r q3 _ => ?_
  obtain ⟨d, hd'⟩ := r.sl
  simp only at q3
  have E1 := S.env.let_go
  split at q3
  · rename_i d0 e0
    obtain ⟨a0, h1, _, _⟩ := E1.ow i _ e0
    refine ⟨_, h1, Z, e1, E1, ?_⟩
    refine ew_bindS q3 fun s2 e2 w H2 S2 r2 q4 _ => ?_
    simp only at q4
    split at q4
    · rename_i xs j d' e3 e4 e5
      rw [hd'] at e5; cases e5
      cases hm : ixN xs.length j with
      | none => rw [hm] at q4; exact q4.elim
      | some m =>
        rw [hm] at q4
        have E2 := S2.env.let_go
        obtain ⟨a, k1, k2, k3, vs, k4, k5⟩ := E2.own_at e3
        rw [h1] at k1; cases k1
        have rw2 := r2.down e4
        cases rw2
        have ru : Rep X.K (Free Z e2 σ) H2 u d := S2.down.rep (r.down hd')
        refine ⟨a0, vs, j, m, rfl, rfl, k4, by rw [k5.length]; exact hm, ?_⟩
        exact q4 σ _ (Run.change E2 e3 h1 ⟨vs.set m u, upd_same, Reps.set (rep_upd k3 ru) m (reps_upd k3 k5)⟩)
    · exact q4.elim
  · exact q3.elim
end
end RF


namespace RF
open PySem PySem.Spec PyProof.Rows L2
section
variable {X : Cx} {G : Sig} {call : Nat → List Sl → Res (Sl × List Sl)} {Wn : WN} {is : List Nat} {ja jb jc je t it : I} {pos : Pos} {v c : Expr}
/-! ### for -/
def forStep (G : Sig) (call : Nat → List Sl → Res (Sl × List Sl)) (t b : I) (d : D) (e1 : Env) : RF.R := match take t d e1 with
  | some e2 => ev G call b e2
  | none => .bad
theorem fl_for {e : Env} : flOf (ev G call (.forS t it jb) e) = (itsOf (ev G call it e)).bind fun q => flOf (forL (forStep G call t jb) q.1 q.2) := by
  rw [ev]
  cases itsOf (ev G call it e) <;> rfl
theorem for_turns {Z : Addr → Prop} {e1 : Env} {σ : St} {H1 : Hp} {D : Ends} {J : It} {ds : List RF.D} {js : List Nat} (hjs : ∀ i ∈ js, i ∈ is) (hts : ∀ i ∈ slots t, i ∈ is) (E1 : EnvOk X.K Z e1 σ H1) (W : Wk X.K J (Free Z e1 σ) H1 ds)
    (q2 : SW X.K Z is e1 σ H1 Wn (flOf (forL (forStep G call t jb) ds e1)) D) : ∃ W : Nat → Nat → St → Hp → Prop, (∃ m, W 0 m σ H1) ∧ ∀ i m σ H, W i m σ H →
      (J.stop i H ∧ D.nx σ H) ∨ (J.go i H ∧ ∃ N : St → Hp → Prop, (∀ σ' H', N σ' H' → ∃ m', m' < m ∧ W (i + 1) m' σ' H') ∧ ∀ x H', J.yld i H x H' → tG X.K t x σ H' fun σ2 H2 => rS X Wn G call js jb { D with nx := N, ct := N, bk := D.nx } σ2 H2) := by
  refine ⟨fun i m σi Hi => m = ds.length - i ∧ i ≤ ds.length ∧ ∃ ei, flOf (forL (forStep G call t jb) ds e1) = flOf (forL (forStep G call t jb) (ds.drop i) ei) ∧ Run X.K Z Z is e1 σ H1 ei σi Hi,
    ⟨ds.length, by simp, Nat.zero_le _, e1, rfl, (Step.refl E1).run⟩, ?_⟩
  rintro i m σi Hi ⟨rfl, hle, ei, he, T⟩
  have stand : ∀ a o, Free Z e1 σ a → H1 a = some o → Hi a = some o := fun a o f x => T.keep a o x f.2
  have q3 := SW.after T (he ▸ q2)
  by_cases hlt : i < ds.length
  · obtain ⟨d, hd⟩ : ∃ d, ds[i]? = some d := ⟨ds[i], List.getElem?_eq_getElem hlt⟩
    have hdrop : ds.drop i = d :: ds.drop (i + 1) := by
      rw [List.drop_eq_getElem_cons hlt]
      rw [List.getElem?_eq_getElem hlt] at hd
      rw [Option.some.inj hd]
    rw [hdrop, forL] at q3
    rw [hdrop, forL] at he
    obtain ⟨hgo, hy⟩ := W.go i d Hi hd stand
    refine .inr ⟨hgo, fun σ' H' => ∃ ei, flOf (forL (forStep G call t jb) ds e1) = flOf (forL (forStep G call t jb) (ds.drop (i + 1)) ei) ∧ Run X.K Z Z is e1 σ H1 ei σ' H', fun σ' H' ⟨ei, k1, k2⟩ => ⟨_, by omega, rfl, by omega, ei, k1, k2⟩, fun x H2 hyl => ?_⟩
    obtain ⟨hgrow, hrep⟩ := hy x H2 hyl
    have Eg : EnvOk X.K Z ei σi H2 := T.env.grow hgrow
    have Tg : Run X.K Z Z is ei σi Hi ei σi H2 := ⟨Eg, fun a o y _ => hgrow a o y, fun _ z => .inl z, fun _ z => z, fun _ z => .inl z, rfl, fun _ _ => rfl⟩
    have rx : Rep X.K (Free Z ei σi) H2 x d := hrep.mono fun b o f y => by
      refine ⟨?_, y⟩
      rcases f with ⟨f, o1, x1⟩ | f
      · refine ⟨f.1, fun z => ?_⟩
        rcases T.own b z with z | z
        · exact f.2 z
        · rw [x1] at z; cases z
      · exact T.env.new_free f
    -- the target
    cases htk : take t d ei with
    | none =>
      unfold forStep at q3
      rw [htk] at q3
      exact q3.elim
    | some e2 =>
      have hst : forStep G call t jb d ei = ev G call jb e2 := by unfold forStep; rw [htk]
      rw [hst] at q3 he
      refine ⟨Z, ei, d, e2, Eg, rx, htk, fun σ2 K2 => ⟨Z, e2, K2.env, ?_⟩⟩
      have Tk : Run X.K Z Z is ei σi H2 e2 σ2 H2 := ⟨K2.env, .refl, fun a z => .inl (K2.own a z), fun _ z => z, fun _ z => .inl z, K2.len, fun i hn => (K2.same i fun z => hn (hts i z)).1⟩
      have T2 := Tg.trans Tk
      have q4 := SW.after T2 q3
      refine SW.narrow hjs (?_ : SW X.K Z is e2 σ2 H2 Wn (flOf (ev G call jb e2)) _)
      cases hb2 : ev G call jb e2 with
      | bad => rw [hb2] at q4; exact q4
      | ex c => rw [hb2] at q4; exact q4
      | ok p =>
        obtain ⟨o, e3⟩ := p
        rw [hb2] at q4 he
        cases o with
        | fl f =>
          cases f with
          | nx => exact fun σ' H' S' => ⟨e3, he, (T.trans T2).trans S'⟩
          | ct => exact fun σ' H' S' => ⟨e3, he, (T.trans T2).trans S'⟩
          | bk => exact q4
          | rt s => exact q4
        | _ => exact q4.elim
  · have hie : ds.length ≤ i := by omega
    rw [List.drop_eq_nil_of_le hie, forL] at q3
    exact .inl ⟨W.stop i Hi hie stand, q3 σi Hi (Step.refl T.env).run⟩
theorem s_for {tg iter : Expr} {body : List Stmt} (hp : PassesOwn (model X.prog X.w) X.A X.env X.xe) (hc : X.calm = true) (hts : ∀ i ∈ slots t, i ∈ is) (hi : PI X tg iter (rI X Wn G call it)) (hg : PG X tg (tG X.K t)) (hb : PSs X body (rS X Wn G call is jb))
    (hs : ∀ x, foldedSetIterable iter X.env x = pure x) : PS X (.For tg iter body [] pos) (rS X Wn G call is (.forS t it jb)) := by
  refine ps_imp (ps_for hp hc hi hg hb hs) fun D σ H ⟨Z, e, E, q⟩ => ⟨Z, e, E, ?_⟩
  have q' : SW X.K Z is e σ H Wn (flOf (ev G call (.forS t it jb) e)) D := q
  rw [fl_for] at q'
  show IW X.K Z e σ H (Wn σ) (itsOf (ev G call it e)) _
  cases hit : itsOf (ev G call it e) with
  | bad => rw [hit] at q'; exact q'
  | ex c => rw [hit] at q'; exact fun H' k => q' σ H' k rfl fun _ _ => rfl
  | ok p =>
    obtain ⟨ds, e1⟩ := p
    rw [hit] at q'
    simp only [Res.bind_ok] at q'
    intro J H1 S W
    exact for_turns (fun _ z => z) hts S.env W (SW.after S.run q')
/-! ### for, over a list that a name owns -/
theorem fl_forO {i : Nat} {e : Env} {ds : List RF.D} (h : e[i]? = some (.ow (.lst ds))) : flOf (ev G call (.forO i t jb) e) = flOf (forOL (forStep G call t jb) i G.lim 0 e) := by
  rw [ev, h]
  rfl
theorem fl_forS {i : Nat} {e : Env} {d : RF.D} (h : e[i]? = some (.sh d)) : flOf (ev G call (.forO i t jb) e) = (itsOf (ev G call (.itV (.var i)) e)).bind fun q => flOf (forL (forStep G call t jb) q.1 q.2) := by
  simp only [ev, h, valOf, Res.bind_ok, Sl.d]
  cases seqOf d <;> rfl
theorem s_forO {tg : Expr} {i : Nat} {x : Str} {p : Pos} {js : List Nat} {body : List Stmt} (hp : PassesOwn (model X.prog X.w) X.A X.env X.xe) (hc : X.calm = true) (hN : X.N[i]? = some x) (hv : Vis X.env.scope x) (hd : (x == ("__debug__" : Str)) = false) (hcd : (x == ("__classdict__" : Str)) = false)
    (hjs : ∀ i ∈ js, i ∈ is) (hij : i ∉ js) (hts : ∀ i ∈ slots t, i ∈ js) (hg : PG X tg (tG X.K t)) (hb : PSs X body (rS X Wn G call js jb)) : PS X (.For tg (.Name x p) body [] pos) (rS X Wn G call is (.forO i t jb)) := by
  have pv := pe_var (X := X) (pos := p) hN hv hd hcd
  have pw : PE X (.Name x p) (rE X Wn G call (.var i)) := pe_imp pv fun σ H Q ⟨Z, e, E, q⟩ => ew_var E q
  refine ps_imp (ps_for hp hc (pi_or (pi_list pv) (i_itV pw)) hg hb (fun x => rfl)) fun D σ H ⟨Z, e, E, q⟩ => ?_
  have q' : SW X.K Z is e σ H Wn (flOf (ev G call (.forO i t jb) e)) D := q
  cases hei : e[i]? with
  | none => rw [ev, hei] at q'; exact q'.elim
  | some s =>
    cases s with
    | un => rw [ev, hei] at q'; exact q'.elim
    | mv => rw [ev, hei] at q'; exact q'.elim
    | sh d =>
      refine .inr ⟨Z, e, E, ?_⟩
      rw [fl_forS hei] at q'
      show IW X.K Z e σ H (Wn σ) (itsOf (ev G call (.itV (.var i)) e)) _
      cases hit : itsOf (ev G call (.itV (.var i)) e) with
      | bad => rw [hit] at q'; exact q'
      | ex c => rw [hit] at q'; exact fun H' k => q' σ H' k rfl fun _ _ => rfl
      | ok p =>
        obtain ⟨ds, e1⟩ := p
        rw [hit] at q'
        simp only [Res.bind_ok] at q'
        intro J H1 S W
        exact for_turns hjs (fun i hi => hjs i (hts i hi)) S.env W (SW.after S.run q')
    | ow d =>
      cases d with
      | lst ds0 =>
        rw [fl_forO hei] at q'
        obtain ⟨a, ha, hza, vs0, hH, _⟩ := E.ow i _ hei
        refine .inl ⟨.ref a, ha, a, rfl, ⟨vs0, SqL.of hH⟩, ?_⟩
        refine ⟨fun k m σk Hk => ∃ ek, flOf (forOL (forStep G call t jb) i G.lim 0 e) = flOf (forOL (forStep G call t jb) i m k ek) ∧ Run X.K Z Z js e σ H ek σk Hk, ⟨G.lim, e, rfl, (Step.refl E).run⟩, ?_⟩
        rintro k m σk Hk ⟨ek, he, T⟩
        have q3 := SW.after (T.wider hjs) (he ▸ q')
        cases m with
        | zero => exact q3.elim
        | succ m =>
          rw [forOL] at q3 he
          have sk : σk[i]? = some (some (.ref a)) := (T.same i hij).trans ha
          cases hek : ek[i]? with
          | none => rw [hek] at q3; exact q3.elim
          | some s2 =>
            cases s2 with
            | un => rw [hek] at q3; exact q3.elim
            | mv => rw [hek] at q3; exact q3.elim
            | sh _ => rw [hek] at q3; exact q3.elim
            | ow d2 =>
              cases d2 with
              | lst dsk =>
                rw [hek] at q3 he
                obtain ⟨a2, ha2, hz2, vs, hHk, hR⟩ := T.env.ow i _ hek
                rw [sk] at ha2
                cases ha2
                simp only at q3 he
                cases hdk : dsk[k]? with
                | none =>
                  rw [hdk] at q3
                  have hl : dsk.length ≤ k := by
                    rcases Nat.lt_or_ge k dsk.length with z | z
                    · rw [List.getElem?_eq_getElem z] at hdk; cases hdk
                    · exact z
                  exact .inl ⟨⟨vs, SqL.of hHk, by rw [hR.length]; exact hl⟩, q3 σk Hk (Step.refl T.env).run⟩
                | some d =>
                  rw [hdk] at q3 he
                  obtain ⟨v, hv1, rv⟩ := hR.get hdk
                  refine .inr ⟨⟨vs, v, SqL.of hHk, hv1⟩, fun σ' H' => ∃ ek, flOf (forOL (forStep G call t jb) i G.lim 0 e) = flOf (forOL (forStep G call t jb) i m (k + 1) ek) ∧ Run X.K Z Z js e σ H ek σ' H', fun σ' H' h => ⟨m, Nat.lt_succ_self m, h⟩, fun x H2 hyl => ?_⟩
                  obtain ⟨rfl, hyl⟩ := hyl
                  have ex := hyl vs (SqL.of hHk)
                  rw [hv1] at ex
                  cases ex
                  simp only at q3 he
                  cases htk : take t d ek with
                  | none =>
                    unfold forStep at q3
                    rw [htk] at q3
                    exact q3.elim
                  | some e2 =>
                    have hst : forStep G call t jb d ek = ev G call jb e2 := by unfold forStep; rw [htk]
                    rw [hst] at q3 he
                    refine ⟨Z, ek, d, e2, T.env, rv, htk, fun σ2 K2 => ⟨Z, e2, K2.env, ?_⟩⟩
                    have Tk : Run X.K Z Z js ek σk H2 e2 σ2 H2 := ⟨K2.env, .refl, fun a z => .inl (K2.own a z), fun _ z => z, fun _ z => .inl z, K2.len, fun i hn => (K2.same i fun z => hn (hts i z)).1⟩
                    have q4 := SW.narrow hjs (SW.after (Tk.wider hjs) q3)
                    show SW X.K Z js e2 σ2 H2 Wn (flOf (ev G call jb e2)) _
                    cases hb2 : ev G call jb e2 with
                    | bad => rw [hb2] at q4; exact q4
                    | ex c => rw [hb2] at q4; exact q4
                    | ok p =>
                      obtain ⟨o, e3⟩ := p
                      rw [hb2] at q4 he
                      cases o with
                      | fl f =>
                        cases f with
                        | nx => exact fun σ' H' S' => ⟨e3, he, (T.trans Tk).trans S'⟩
                        | ct => exact fun σ' H' S' => ⟨e3, he, (T.trans Tk).trans S'⟩
                        | bk => exact q4
                        | rt s => exact q4
                      | _ => exact q4.elim
              | _ => rw [hek] at q3; exact q3.elim
      | _ => rw [ev, hei] at q'; exact q'.elim
/-! ### while -/
theorem s_whl {test : Expr} {body : List Stmt} (hp : PassesOwn (model X.prog X.w) X.A X.env X.xe) (hc : PT X test (rT X Wn G call jc)) (hb : PSs X body (rS X Wn G call is jb)) : PS X (.While test body [] pos) (rS X Wn G call is (.whl jc jb)) := by
  refine ps_imp (ps_while hp hc hb) fun D σ H ⟨Z, e, E, q⟩ => ?_
  have q' : SW X.K Z is e σ H Wn (flOf (ev G call (.whl jc jb) e)) D := q
  rw [ev] at q'
  refine ⟨fun m σi Hi => ∃ ei, EnvOk X.K Z ei σi Hi ∧ SW X.K Z is ei σi Hi Wn (flOf (whL (fun e1 => ev G call jc e1) (fun e1 => ev G call jb e1) m ei)) D, ⟨G.lim, e, E, q'⟩, ?_⟩
  rintro m σi Hi ⟨ei, Ei, qi⟩
  cases m with
  | zero => exact qi.elim
  | succ m =>
    rw [whL] at qi
    refine ⟨Z, ei, Ei, ?_⟩
    show TW X.K Z ei σi Hi (Wn σi) (tstOf (ev G call jc ei)) _
    cases ht : ev G call jc ei with
    | bad => rw [ht] at qi; exact qi
    | ex c => rw [ht] at qi; exact fun H' k => qi σi H' k rfl fun _ _ => rfl
    | ok p =>
      obtain ⟨o, e1⟩ := p
      rw [ht] at qi
      cases o with
      | val s =>
        cases s with
        | sh d =>
          cases d with
          | bl b =>
            intro H1 S
            cases b with
            | false =>
              simp only [Bool.false_eq_true, if_false]
              exact qi σi H1 S.run
            | true =>
              simp only [if_true]
              refine ⟨fun σ' H' => ∃ ei, EnvOk X.K Z ei σ' H' ∧ SW X.K Z is ei σ' H' Wn (flOf (whL (fun e1 => ev G call jc e1) (fun e1 => ev G call jb e1) m ei)) D, fun σ' H' h => ⟨m, Nat.lt_succ_self m, h⟩, Z, e1, S.env, ?_⟩
              have q4 := SW.after S.run qi
              show SW X.K Z is e1 σi H1 Wn (flOf (ev G call jb e1)) _
              simp only at q4
              cases hb2 : ev G call jb e1 with
              | bad => rw [hb2] at q4; exact q4
              | ex c => rw [hb2] at q4; exact q4
              | ok p =>
                obtain ⟨o, e3⟩ := p
                rw [hb2] at q4
                cases o with
                | fl f =>
                  cases f with
                  | nx => exact fun σ' H' S' => ⟨e3, S'.env, SW.after S' q4⟩
                  | ct => exact fun σ' H' S' => ⟨e3, S'.env, SW.after S' q4⟩
                  | bk => exact q4
                  | rt s => exact q4
                | _ => exact q4.elim
          | _ => exact qi.elim
        | _ => exact qi.elim
      | _ => exact qi.elim
end
end RF


namespace RF
open PySem PySem.Spec PyProof.Rows L2
/-- a def's promise, where nothing of what is under way guards a repr -/
structure FnG (P : Program) (w : World) (K : PySem.W.Frag) (mg : Str → Option Value) (base : Heap) (k : Nat) (f : Addr) (fd : FuncData) (ps : List Str) (sp : Sp) : Prop where
  len : ∀ vs H Q E, sp vs H Q E → vs.length = ps.length
  run : ∀ (A : Around) (outer : List PySem.Env) (s : Shared) (H : Hp) (args : PySem.Args) (us : List Value) (vs : List V) (Q : VK) (E : XK), Room k A → A.guards = some [] →
    Env0 P w K mg base A outer s H → BindsTo s fd args (ps.zip us) → Vals vs us → sp vs H Q E → codeAny (model P w) A (.call (.ref f) args) (CR (CXa P w) outer P w H s Q E) s
/-- the promise of a def that means cf -/
def spF (K : PySem.W.Frag) (mg : Str → Option Value) (ps : List Str) (cf : List Sl → Res (Sl × List Sl)) : Sp := fun vs H Q E => vs.length = ps.length ∧ ∃ Z ss, EnvOk K Z ss (vs.map some) H ∧
  EW K Z ss (vs.map some) H (fun c H' => ∀ C, mg c = some (.ref C) → E (.ref C) none H') (cf ss) Q
section
variable {X : Cx} {k : Nat} {f : Addr} {fd : FuncData} {ps : List Str} {sp : Sp} {x : Str} {p pos : Pos} {a : Expr} {es : List Expr} {t : TA} {W : WX}
theorem run_fnG {pins : List (Addr × Obj)} {σ : L2.St} {H : Hp} {s : Shared} {Q : VK} {us : List Value} {vs : List V} (F : FnG X.prog X.w X.K X.mg X.base k f fd ps sp) (hr : Room k X.A) (hg : X.A.guards = some []) (hb : Binds X.K fd ps []) (tk : Takes X W)
    (I : L2.Inv X pins σ H s) (r : Vals vs us) (h : sp vs H Q (WE W σ)) : wpAny (model X.prog X.w) X.A (call (.ref f) us) (EP X pins σ Q) X.xe s := by
  have hl : us.length = ps.length := r.length.symm.trans (F.len _ _ _ _ h)
  have b : BindsTo s fd ⟨us, []⟩ (ps.zip us) := by simpa using hb s us I.kIn (by simpa using hl)
  refine wpAny_call (codeAny_mono (F.run X.A X.stack s H ⟨us, []⟩ us vs Q (WE W σ) hr hg I.env0 b r h) ?_)
  intro res s' hq
  match res, hq with
  | .error e, hq => exact passAt tk σ pins H s e s' I hq
  | .ok (.ret u), hq => exact I.after hq
  | .ok .next, hq => exact hq.elim
  | .ok .brk, hq => exact hq.elim
  | .ok .cont, hq => exact hq.elim
theorem pe_callG (F : FnG X.prog X.w X.K X.mg X.base k f fd ps sp) (hr : Room k X.A) (hgu : X.A.guards = some []) (hg : Gl X x) (hm : X.mg x = some (.ref f)) (hk : PySem.W.keepIn X.K (.ref f) = true) (hb : Binds X.K fd ps []) (tk : Takes X W) (ha : PA X (a :: es) t)
    (hdb : (x == ("__debug__" : Str)) = false) (he : starEach (a :: es) X.env = (false, eval a X.env) :: starEach es X.env) (hpl : (backTo pos (starEach es X.env)).any (·.1) = false) :
    PE X (.Call (.Name x p) (a :: es) [] pos) (fun σ H Q => t σ H fun vs H1 => sp vs H1 Q (WE W σ)) := by
  constructor
  intro pins s σ H Q I h
  refine wpAny_Call_Name_kw (ld_glob I hg hm ?_ hdb)
  refine PySem.W.callWith_K (h₀ := X.base) I.ok.mod.kin hk ?_ he hpl
  exact thn (ha.run pos pins s σ H _ I h) fun us s1 ⟨vs, H1, I1, r, q⟩ => ⟨I1.kIn, run_fnG F hr hgu hb tk I1 r q⟩
end
/-! ### handing arguments over, taking them back -/
section
variable {K : PySem.W.Frag} {Z Zf : Addr → Prop} {e e1 : Env} {σ : St} {H H1 H2 : Hp} {vs : List V} {as : List AV} {ss os : List Sl}
theorem hand_len : ∀ {as : List AV} {ss : List Sl}, hand e as = some ss → ss.length = as.length
  | [], ss, h => by cases h; rfl
  | .nm i :: r, ss, h => by
    unfold hand at h
    split at h
    · cases hh : hand e r with
      | none => rw [hh] at h; cases h
      | some ss' => rw [hh] at h; cases h; simp [hand_len hh]
    · cases hh : hand e r with
      | none => rw [hh] at h; cases h
      | some ss' => rw [hh] at h; cases h; simp [hand_len hh]
    · cases h
  | .vl s :: r, ss, h => by
    unfold hand at h
    cases hh : hand e r with
    | none => rw [hh] at h; cases h
    | some ss' => rw [hh] at h; cases h; simp [hand_len hh]
/-- what is handed, place by place -/
theorem hand_at : ∀ {as : List AV} {ss : List Sl} {k : Nat} {s : Sl}, hand e as = some ss → ss[k]? = some s → (∃ i, as[k]? = some (.nm i) ∧ e[i]? = some s ∧ ((∃ d, s = .sh d) ∨ ∃ d, s = .ow d)) ∨ as[k]? = some (.vl s)
  | [], ss, k, s, h, q => by cases h; simp at q
  | .nm i :: r, ss, k, s, h, q => by
    unfold hand at h
    split at h
    · rename_i d hd
      cases hh : hand e r with
      | none => rw [hh] at h; cases h
      | some ss' =>
        rw [hh] at h; cases h
        cases k with
        | zero => simp at q; exact .inl ⟨i, by simp, by rw [hd, q], .inl ⟨d, q.symm⟩⟩
        | succ k => simpa using hand_at (k := k) hh (by simpa using q)
    · rename_i d hd
      cases hh : hand e r with
      | none => rw [hh] at h; cases h
      | some ss' =>
        rw [hh] at h; cases h
        cases k with
        | zero => simp at q; exact .inl ⟨i, by simp, by rw [hd, q], .inr ⟨d, q.symm⟩⟩
        | succ k => simpa using hand_at (k := k) hh (by simpa using q)
    · cases h
  | .vl s0 :: r, ss, k, s, h, q => by
    unfold hand at h
    cases hh : hand e r with
    | none => rw [hh] at h; cases h
    | some ss' =>
      rw [hh] at h; cases h
      cases k with
      | zero => simp at q; exact .inr (by simp [q])
      | succ k => simpa using hand_at (k := k) hh (by simpa using q)
theorem AVs.len : ∀ {vs : List V} {as : List AV}, AVs K Z Zf e σ H vs as → vs.length = as.length
  | _, _, .nil => rfl
  | _, _, .nm _ r => by simp [r.len]
  | _, _, .sh _ r => by simp [r.len]
  | _, _, .ow _ _ _ _ _ r => by simp [r.len]
theorem AVs.at_nm : ∀ {vs : List V} {as : List AV} {k i : Nat}, AVs K Z Zf e σ H vs as → as[k]? = some (.nm i) → ∃ v, vs[k]? = some v ∧ σ[i]? = some (some v)
  | _, _, _, _, .nil, h => by simp at h
  | _, _, 0, i, .nm h1 _, h => by simp at h; subst h; exact ⟨_, rfl, h1⟩
  | _, _, k + 1, i, .nm _ r, h => r.at_nm (k := k) (by simpa using h)
  | _, _, 0, i, .sh _ _, h => by simp at h
  | _, _, k + 1, i, .sh _ r, h => r.at_nm (k := k) (by simpa using h)
  | _, _, 0, i, .ow _ _ _ _ _ _, h => by simp at h
  | _, _, k + 1, i, .ow _ _ _ _ _ r, h => r.at_nm (k := k) (by simpa using h)
theorem AVs.at_sh : ∀ {vs : List V} {as : List AV} {k : Nat} {d : D}, AVs K Z Zf e σ H vs as → as[k]? = some (.vl (.sh d)) → ∃ v, vs[k]? = some v ∧ Rep K (Free Zf e σ) H v d
  | _, _, _, _, .nil, h => by simp at h
  | _, _, 0, _, .nm h1 _, h => by simp at h
  | _, _, k + 1, i, .nm _ r, h => r.at_sh (k := k) (by simpa using h)
  | _, _, 0, i, .sh q _, h => by simp at h; subst h; exact ⟨_, rfl, q⟩
  | _, _, k + 1, i, .sh _ r, h => r.at_sh (k := k) (by simpa using h)
  | _, _, 0, i, .ow _ _ _ _ _ _, h => by simp at h
  | _, _, k + 1, i, .ow _ _ _ _ _ r, h => r.at_sh (k := k) (by simpa using h)
theorem AVs.at_ow : ∀ {vs : List V} {as : List AV} {k : Nat} {d : D}, AVs K Z Zf e σ H vs as → as[k]? = some (.vl (.ow d)) → ∃ a, vs[k]? = some (.ref a) ∧ ¬ Z a ∧ Zf a ∧ ¬ Own e σ a ∧ OwnAt K (Free Zf e σ) H a d
  | _, _, _, _, .nil, h => by simp at h
  | _, _, 0, _, .nm h1 _, h => by simp at h
  | _, _, k + 1, i, .nm _ r, h => r.at_ow (k := k) (by simpa using h)
  | _, _, 0, i, .sh q _, h => by simp at h
  | _, _, k + 1, i, .sh _ r, h => r.at_ow (k := k) (by simpa using h)
  | _, _, 0, i, .ow h1 h2 h3 h4 _ _, h => by simp at h; subst h; exact ⟨_, rfl, h1, h2, h3, h4⟩
  | _, _, k + 1, i, .ow _ _ _ _ _ r, h => r.at_ow (k := k) (by simpa using h)
/-- two owned temporaries are two -/
theorem AVs.ow_inj : ∀ {vs : List V} {as : List AV} {j k : Nat} {d d' : D} {a : Addr}, AVs K Z Zf e σ H vs as → as[j]? = some (.vl (.ow d)) → as[k]? = some (.vl (.ow d')) → vs[j]? = some (.ref a) → vs[k]? = some (.ref a) → j = k
  | _, _, _, _, _, _, _, .nil, h, _, _, _ => by simp at h
  | _, _, 0, _, _, _, _, .nm _ _, h, _, _, _ => by simp at h
  | _, _, _ + 1, 0, _, _, _, .nm _ _, _, h, _, _ => by simp at h
  | _, _, j + 1, k + 1, _, _, _, .nm _ r, h1, h2, h3, h4 => by rw [r.ow_inj (j := j) (k := k) (by simpa using h1) (by simpa using h2) (by simpa using h3) (by simpa using h4)]
  | _, _, 0, _, _, _, _, .sh _ _, h, _, _, _ => by simp at h
  | _, _, _ + 1, 0, _, _, _, .sh _ _, _, h, _, _ => by simp at h
  | _, _, j + 1, k + 1, _, _, _, .sh _ r, h1, h2, h3, h4 => by rw [r.ow_inj (j := j) (k := k) (by simpa using h1) (by simpa using h2) (by simpa using h3) (by simpa using h4)]
  | _, _, 0, 0, _, _, _, .ow _ _ _ _ _ _, _, _, _, _ => rfl
  | _, _, 0, k + 1, _, d', a, .ow _ _ _ _ n _, _, h2, h3, h4 => by
    simp at h3; subst h3
    exact absurd (by simpa using h4) (n k d' (by simpa using h2))
  | _, _, j + 1, 0, d, _, a, .ow _ _ _ _ n _, h1, _, h3, h4 => by
    simp at h4; subst h4
    exact absurd (by simpa using h3) (n j d (by simpa using h1))
  | _, _, j + 1, k + 1, _, _, _, .ow _ _ _ _ _ r, h1, h2, h3, h4 => by rw [r.ow_inj (j := j) (k := k) (by simpa using h1) (by simpa using h2) (by simpa using h3) (by simpa using h4)]
theorem once_inj : ∀ {as : List AV} {j k i : Nat} {d : D}, once e as = true → e[i]? = some (.ow d) → as[j]? = some (.nm i) → as[k]? = some (.nm i) → j = k
  | [], _, _, _, _, _, _, h, _ => by simp at h
  | .nm m :: r, 0, 0, _, _, _, _, _, _ => rfl
  | .nm m :: r, 0, k + 1, i, d, ho, hd, h1, h2 => by
    simp at h1; subst h1
    unfold once at ho
    rw [hd, Bool.and_eq_true] at ho
    have h3 : (AV.nm m) ∈ r := List.mem_of_getElem? (by simpa using h2)
    have : r.any (isNm m) = true := List.any_eq_true.mpr ⟨_, h3, by simp [isNm]⟩
    simp [this] at ho
  | .nm m :: r, j + 1, 0, i, d, ho, hd, h1, h2 => by
    simp at h2; subst h2
    unfold once at ho
    rw [hd, Bool.and_eq_true] at ho
    have h3 : (AV.nm m) ∈ r := List.mem_of_getElem? (by simpa using h1)
    have : r.any (isNm m) = true := List.any_eq_true.mpr ⟨_, h3, by simp [isNm]⟩
    simp [this] at ho
  | .nm m :: r, j + 1, k + 1, i, d, ho, hd, h1, h2 => by
    unfold once at ho
    rw [Bool.and_eq_true] at ho
    rw [once_inj (j := j) (k := k) ho.2 hd (by simpa using h1) (by simpa using h2)]
  | .vl s :: r, 0, _, _, _, _, _, h1, _ => by simp at h1
  | .vl s :: r, _ + 1, 0, _, _, _, _, _, h2 => by simp at h2
  | .vl s :: r, j + 1, k + 1, i, d, ho, hd, h1, h2 => by
    unfold once at ho
    rw [once_inj (j := j) (k := k) ho hd (by simpa using h1) (by simpa using h2)]
theorem back_len : ∀ {as : List AV} {os : List Sl} {e : Env}, (back e as os).length = e.length
  | [], _, _ => by unfold back; rfl
  | .nm i :: r, [], _ => by unfold back; rfl
  | .vl s :: r, [], _ => by unfold back; rfl
  | .nm i :: r, s :: ss, e => by
    unfold back
    split
    · rw [back_len, List.length_set]
    · exact back_len
  | .vl _ :: r, _ :: ss, e => by unfold back; exact back_len
/-- taken back, name by name: one that is not handed, or not owned, is as it was -/
theorem back_same : ∀ {as : List AV} {os : List Sl} {e : Env} {j : Nat}, (∀ k : Nat, as[k]? = some (.nm j) → ∀ d : D, e[j]? ≠ some (.ow d)) → (back e as os)[j]? = e[j]?
  | [], _, _, _, _ => by unfold back; rfl
  | .nm i :: r, [], _, _, _ => by unfold back; rfl
  | .vl s :: r, [], _, _, _ => by unfold back; rfl
  | .nm i :: r, s :: ss, e, j, h => by
    unfold back
    split
    · rename_i d hd
      have hij : i ≠ j := fun q => h 0 (by simp [q]) d (by rw [← q]; exact hd)
      rw [back_same fun k hk d' => by rw [List.getElem?_set_ne hij]; exact h (k + 1) (by simpa using hk) d', List.getElem?_set_ne hij]
    · exact back_same fun k hk => h (k + 1) (by simpa using hk)
  | .vl _ :: r, _ :: ss, e, j, h => by unfold back; exact back_same fun k hk => h (k + 1) (by simpa using hk)
/-- .. one that is handed and owned holds what came back -/
theorem back_at : ∀ {as : List AV} {os : List Sl} {e : Env} {j k : Nat} {d : D}, os.length = as.length → once e as = true → as[k]? = some (.nm j) → e[j]? = some (.ow d) → (back e as os)[j]? = os[k]?
  | [], _, _, _, _, _, _, _, h, _ => by simp at h
  | _ :: _, [], _, _, _, _, hl, _, _, _ => by simp at hl
  | .nm i :: r, s :: ss, e, j, k, d, hl, ho, hk, hd => by
    unfold back
    have ho' : once e r = true := by unfold once at ho; rw [Bool.and_eq_true] at ho; exact ho.2
    cases k with
    | zero =>
      simp at hk; subst hk
      rw [hd]
      simp only
      have no : ∀ k : Nat, r[k]? = some (.nm i) → ∀ d' : D, (e.set i s)[i]? ≠ some (.ow d') := fun k hk => by
        have := once_inj (as := .nm i :: r) (j := 0) (k := k + 1) ho hd (by simp) (by simpa using hk)
        cases this
      rw [back_same no, List.getElem?_set_self (lt_of_get hd)]
      simp
    | succ k =>
      have hk' : r[k]? = some (.nm j) := by simpa using hk
      have hl' : ss.length = r.length := by simpa using hl
      split
      · rename_i d2 hd2
        have hij : i ≠ j := fun q => by
          subst q
          have := once_inj (as := .nm i :: r) (j := 0) (k := k + 1) ho hd (by simp) hk
          cases this
        have ho2 : once (e.set i s) r = true := by
          have aux : ∀ {r : List AV}, (∀ k : Nat, r[k]? ≠ some (.nm i)) → once e r = true → once (e.set i s) r = true := by
            intro r
            induction r with
            | nil => intro _ h; exact h
            | cons a r ih =>
              intro hn h
              cases a with
              | nm m =>
                unfold once at h ⊢
                have hm : i ≠ m := fun q => hn 0 (by simp [q])
                rw [Bool.and_eq_true] at h ⊢
                rw [List.getElem?_set_ne hm]
                exact ⟨h.1, ih (fun k hk => hn (k + 1) (by simpa using hk)) h.2⟩
              | vl s' =>
                unfold once at h ⊢
                exact ih (fun k hk => hn (k + 1) (by simpa using hk)) h
          refine aux (fun k hk => ?_) ho'
          have := once_inj (as := .nm i :: r) (j := 0) (k := k + 1) ho hd2 (by simp) (by simpa using hk)
          cases this
        rw [back_at (k := k) hl' ho2 hk' (by rw [List.getElem?_set_ne hij]; exact hd)]
        simp
      · rw [back_at (k := k) hl' ho' hk' hd]; simp
  | .vl _ :: r, _ :: ss, e, j, k, d, hl, ho, hk, hd => by
    unfold back
    cases k with
    | zero => simp at hk
    | succ k =>
      unfold once at ho
      rw [back_at (k := k) (by simpa using hl) ho (by simpa using hk) hd]; simp

/-- THE CALL: what the callee's promise asks, and what it gives back -/
theorem call_glue {v0 : Unit} (S : Step K Z Zf e σ H e1 H1) (A : AVs K Z Zf e1 σ H1 vs as) (hh : hand e1 as = some ss) (ho : once e1 as = true) :
    ∃ Zc, EnvOk K Zc ss (vs.map some) H1 ∧ ∀ {s : Sl} {os : List Sl} {v : V} {H2 : Hp}, Step K Zc (Zp Zc v s) ss (vs.map some) H1 os H2 → VOk K Zc os (vs.map some) H2 v s →
      Step K Z (Zp Z v s) e σ H (back e1 as os) H2 ∧ VOk K Z (back e1 as os) σ H2 v s := by
  have E1 := S.env
  have lss := hand_len hh
  have lvs := A.len
  have tau : ∀ {k : Nat} {w : V}, (vs.map some)[k]? = some (some w) ↔ vs[k]? = some w := fun {k w} => by rw [List.getElem?_map]; cases vs[k]? <;> simp
  -- the owned arguments
  have ownS : ∀ {a : Addr}, Own ss (vs.map some) a → (Own e1 σ a ∨ (Zf a ∧ ¬ Z a ∧ ¬ Own e1 σ a)) := fun {a} ⟨k, d, h1, h2⟩ => by
    have h2' := tau.mp h2
    rcases hand_at hh h1 with ⟨i, k1, k2, _⟩ | k1
    · obtain ⟨w, w1, w2⟩ := A.at_nm k1
      rw [h2'] at w1; cases w1
      exact .inl ⟨i, d, k2, w2⟩
    · obtain ⟨b, b1, b2, b3, b4, _⟩ := A.at_ow k1
      rw [h2'] at b1; cases b1
      exact .inr ⟨b3, b2, b4⟩
  have Zown : ∀ {a : Addr}, Zf a → ¬ Own e1 σ a := fun z o => E1.own_nz o z
  have ZS : ∀ {a : Addr}, Z a → ¬ Own ss (vs.map some) a := fun z o => (ownS o).elim (Zown (S.zsub _ z)) fun q => q.2.1 z
  refine ⟨fun a => (Zf a ∨ Own e1 σ a) ∧ ¬ Own ss (vs.map some) a, ⟨by rw [List.length_map, lss, lvs], fun k d h => ?_, fun k d h => ?_, fun j k d d' a h1 h2 h3 h4 => ?_, fun a z => ?_⟩, ?_⟩
  · -- shared ones
    have fr : ∀ b o, Free Zf e1 σ b → H1 b = some o → Free (fun a => (Zf a ∨ Own e1 σ a) ∧ ¬ Own ss (vs.map some) a) ss (vs.map some) b ∧ H1 b = some o := fun b o f x =>
      ⟨⟨fun z => z.1.elim f.1 f.2, fun z => (ownS z).elim f.2 fun q => f.1 q.1⟩, x⟩
    rcases hand_at hh h with ⟨i, k1, k2, _⟩ | k1
    · obtain ⟨w, w1, w2⟩ := A.at_nm k1
      obtain ⟨w', w3, w4⟩ := E1.sh i d k2
      rw [w2] at w3; cases w3
      exact ⟨w, tau.mpr w1, w4.mono fr⟩
    · obtain ⟨w, w1, w2⟩ := A.at_sh k1
      exact ⟨w, tau.mpr w1, w2.mono fr⟩
  · have fr : ∀ b o, Free Zf e1 σ b → H1 b = some o → Free (fun a => (Zf a ∨ Own e1 σ a) ∧ ¬ Own ss (vs.map some) a) ss (vs.map some) b ∧ H1 b = some o := fun b o f x =>
      ⟨⟨fun z => z.1.elim f.1 f.2, fun z => (ownS z).elim f.2 fun q => f.1 q.1⟩, x⟩
    rcases hand_at hh h with ⟨i, k1, k2, _⟩ | k1
    · obtain ⟨w, w1, w2⟩ := A.at_nm k1
      obtain ⟨a, w3, w4, w5⟩ := E1.ow i d k2
      rw [w2] at w3; cases w3
      exact ⟨a, tau.mpr w1, fun z => z.2 ⟨k, d, h, tau.mpr w1⟩, w5.mono fr fun _ x => x⟩
    · obtain ⟨a, w1, _, _, _, w5⟩ := A.at_ow k1
      exact ⟨a, tau.mpr w1, fun z => z.2 ⟨k, d, h, tau.mpr w1⟩, w5.mono fr fun _ x => x⟩
  · have h3' := tau.mp h3
    have h4' := tau.mp h4
    rcases hand_at hh h1 with ⟨i, k1, k2, _⟩ | k1
    · obtain ⟨w, w1, w2⟩ := A.at_nm k1
      rw [h3'] at w1; cases w1
      rcases hand_at hh h2 with ⟨i', k1', k2', _⟩ | k1'
      · obtain ⟨w', w1', w2'⟩ := A.at_nm k1'
        rw [h4'] at w1'; cases w1'
        have := E1.inj i i' d d' a k2 k2' w2 w2'
        subst this
        exact once_inj ho k2 k1 k1'
      · obtain ⟨b, b1, _, _, b4, _⟩ := A.at_ow k1'
        rw [h4'] at b1; cases b1
        exact absurd ⟨i, d, k2, w2⟩ b4
    · obtain ⟨b, b1, _, _, b4, _⟩ := A.at_ow k1
      rw [h3'] at b1; cases b1
      rcases hand_at hh h2 with ⟨i', k1', k2', _⟩ | k1'
      · obtain ⟨w', w1', w2'⟩ := A.at_nm k1'
        rw [h4'] at w1'; cases w1'
        exact absurd ⟨i', d', k2', w2'⟩ b4
      · exact A.ow_inj k1 k1' h3' h4'
  · rcases z.1 with z | z
    · exact E1.dom a z
    · obtain ⟨o, x, _⟩ := E1.own_some z
      exact ⟨o, x⟩
  · intro s os v H2 T r
    have Eo := T.env
    have los : os.length = as.length := by rw [Eo.len, List.length_map, lvs]
    -- a name that owns ahead of the call: handed or not
    have own_was : ∀ {j : Nat} {d : D}, (back e1 as os)[j]? = some (.ow d) → ∃ d0, e1[j]? = some (.ow d0) := fun {j d} h => by
      by_cases hj : ∃ k : Nat, as[k]? = some (.nm j) ∧ ∃ d0 : D, e1[j]? = some (.ow d0)
      · obtain ⟨k, _, d0, h0⟩ := hj
        exact ⟨d0, h0⟩
      · rw [back_same fun k hk d0 h0 => hj ⟨k, hk, d0, h0⟩] at h
        exact ⟨d, h⟩
    have own_back : ∀ {a : Addr}, Own (back e1 as os) σ a → Own e1 σ a ∧ (Own os (vs.map some) a ∨ ¬ Own ss (vs.map some) a) := fun {a} ⟨j, d, h1, h2⟩ => by
      obtain ⟨d0, h0⟩ := own_was h1
      refine ⟨⟨j, d0, h0, h2⟩, ?_⟩
      by_cases hj : ∃ k : Nat, as[k]? = some (.nm j)
      · obtain ⟨k, hk⟩ := hj
        rw [back_at los ho hk h0] at h1
        obtain ⟨w, w1, w2⟩ := A.at_nm hk
        rw [h2] at w2; cases w2
        exact .inl ⟨k, d, h1, tau.mpr w1⟩
      · refine .inr fun ⟨k, d', k1, k2⟩ => ?_
        have k2' := tau.mp k2
        rcases hand_at hh k1 with ⟨i, i1, i2, _⟩ | i1
        · obtain ⟨w, w1, w2⟩ := A.at_nm i1
          rw [k2'] at w1; cases w1
          have := E1.inj i j d' d0 a i2 h0 w2 h2
          subst this
          exact hj ⟨k, i1⟩
        · obtain ⟨b, b1, _, _, b4, _⟩ := A.at_ow i1
          rw [k2'] at b1; cases b1
          exact b4 ⟨j, d0, h0, h2⟩
    -- what is free for the callee is free for us
    have frC : ∀ {b : Addr}, ¬ ((Zf b ∨ Own e1 σ b) ∧ ¬ Own ss (vs.map some) b) → ¬ Own os (vs.map some) b → ¬ Z b ∧ ¬ Own (back e1 as os) σ b := fun {b} h1 h2 => by
      refine ⟨fun z => h1 ⟨.inl (S.zsub _ z), ZS z⟩, fun z => ?_⟩
      obtain ⟨z1, z2⟩ := own_back z
      rcases z2 with z2 | z2
      · exact h2 z2
      · exact h1 ⟨.inr z1, z2⟩
    have newv : ∀ {b : Addr}, zOf v s b → H1 b = none ∨ Own ss (vs.map some) b := fun {b} z => by
      rcases T.new b (.inr z) with y | y
      · cases s with
        | ow d =>
          obtain ⟨b', e', nz, _⟩ := r
          have z' : v = .ref b := z
          rw [z'] at e'; cases e'
          exact absurd y nz
        | _ => exact z.elim
      · exact y
    have frO : ∀ b o, Free Zf e1 σ b → H1 b = some o → Free (Zp Z v s) (back e1 as os) σ b ∧ H2 b = some o := fun b o f x => by
      have nS : ¬ Own ss (vs.map some) b := fun z => (ownS z).elim f.2 fun q => f.1 q.1
      refine ⟨⟨fun z => ?_, fun z => f.2 (own_back z).1⟩, T.keep b o x nS⟩
      rcases z with z | z
      · exact f.1 (S.zsub _ z)
      · rcases newv z with y | y
        · rw [x] at y; cases y
        · exact nS y
    have frN : ∀ b o, Free (Zp (fun a => (Zf a ∨ Own e1 σ a) ∧ ¬ Own ss (vs.map some) a) v s) os (vs.map some) b → H2 b = some o → Free (Zp Z v s) (back e1 as os) σ b ∧ H2 b = some o := fun b o f x => by
      obtain ⟨k1, k2⟩ := frC (fun z => f.1 (.inl z)) f.2
      exact ⟨⟨fun z => z.elim k1 fun z => f.1 (.inr z), k2⟩, x⟩
    have ZS2 : ∀ {a : Addr}, Z a → ∃ o, H2 a = some o := fun {a} z => by
      obtain ⟨o, x⟩ := E1.dom a (S.zsub _ z)
      exact ⟨o, T.keep a o x (ZS z)⟩
    have EB : EnvOk K (Zp Z v s) (back e1 as os) σ H2 := by
      refine ⟨by rw [back_len]; exact E1.len, fun j d h => ?_, fun j d h => ?_, fun j k d d' a h1 h2 h3 h4 => ?_, fun a z => ?_⟩
      · by_cases hj : ∃ k : Nat, as[k]? = some (.nm j) ∧ ∃ d0 : D, e1[j]? = some (.ow d0)
        · obtain ⟨k, hk, d0, h0⟩ := hj
          rw [back_at los ho hk h0] at h
          obtain ⟨w, w1, w2⟩ := Eo.sh k d h
          obtain ⟨w', w3, w4⟩ := A.at_nm hk
          rw [tau.mp w1] at w3; cases w3
          exact ⟨w, w4, w2.mono frN⟩
        · rw [back_same fun k hk d0 h0 => hj ⟨k, hk, d0, h0⟩] at h
          obtain ⟨w, w1, w2⟩ := E1.sh j d h
          exact ⟨w, w1, w2.mono frO⟩
      · obtain ⟨d0, h0⟩ := own_was h
        obtain ⟨a, a1, a2, a3⟩ := E1.ow j d0 h0
        have nz : ¬ Z a := fun z => a2 (S.zsub _ z)
        by_cases hj : ∃ k : Nat, as[k]? = some (.nm j)
        · obtain ⟨k, hk⟩ := hj
          rw [back_at los ho hk h0] at h
          obtain ⟨b, b1, b2, b3⟩ := Eo.ow k d h
          obtain ⟨w', w3, w4⟩ := A.at_nm hk
          rw [tau.mp b1] at w3; cases w3
          rw [a1] at w4; cases w4
          exact ⟨a, a1, fun z => z.elim nz fun z => b2 (.inr z), b3.mono frN fun _ x => x⟩
        · rw [back_same fun k hk d0 _ => hj ⟨k, hk⟩] at h
          rw [h0] at h; cases h
          have nS : ¬ Own ss (vs.map some) a := fun z => by
            have := own_back (a := a) ⟨j, d, by rw [back_same fun k hk d0 _ => hj ⟨k, hk⟩]; exact h0, a1⟩
            rcases this.2 with y | y
            · -- then it is handed, against hj
              obtain ⟨k, d', k1, k2⟩ := z
              have k2' := tau.mp k2
              rcases hand_at hh k1 with ⟨i, i1, i2, _⟩ | i1
              · obtain ⟨w, w1, w2⟩ := A.at_nm i1
                rw [k2'] at w1; cases w1
                have := E1.inj i j d' d a i2 h0 w2 a1
                subst this
                exact hj ⟨k, i1⟩
              · obtain ⟨b, b1, _, _, b4, _⟩ := A.at_ow i1
                rw [k2'] at b1; cases b1
                exact b4 ⟨j, d, h0, a1⟩
            · exact y z
          refine ⟨a, a1, fun z => z.elim nz fun z => ?_, a3.mono frO fun o x => T.keep a o x nS⟩
          rcases newv z with y | y
          · obtain ⟨o, x, _⟩ := a3.some
            rw [x] at y; cases y
          · exact nS y
      · obtain ⟨d0, k0⟩ := own_was h1
        obtain ⟨d1, k1⟩ := own_was h2
        exact E1.inj j k d0 d1 a k0 k1 h3 h4
      · rcases z with z | z
        · exact ZS2 z
        · exact Eo.dom a (.inr z)
    have keepA : Keeps (Own e σ) H H2 := fun a o x n => by
      have x1 := S.keep a o x n
      refine T.keep a o x1 fun z => ?_
      rcases ownS z with z | ⟨z1, z2, _⟩
      · exact n (S.own a z)
      · rcases S.new a z1 with y | y | y
        · exact z2 y
        · rw [x] at y; cases y
        · exact n y
    refine ⟨⟨EB, keepA, fun a z => S.own a (own_back z).1, fun a z => .inl z, fun a z => ?_⟩, ?_⟩
    · rcases z with z | z
      · exact .inl z
      · rcases newv z with y | y
        · exact .inr (S.none_back y)
        · rcases ownS y with y | ⟨y1, y2, _⟩
          · exact .inr (.inr (S.own a y))
          · rcases S.new a y1 with q | q
            · exact absurd q y2
            · exact .inr q
    · cases s with
      | sh d =>
        refine r.mono fun b o f x => ?_
        obtain ⟨k1, k2⟩ := frC f.1 f.2
        exact ⟨⟨k1, k2⟩, x⟩
      | ow d =>
        obtain ⟨a, rfl, h1, h2, h3⟩ := r
        obtain ⟨k1, k2⟩ := frC h1 h2
        exact ⟨a, rfl, k1, k2, h3.mono frN fun _ x => x⟩
      | un => exact r.elim
      | mv => exact r.elim
end
/-- what is wished of an error by its name, where W is what is wished of it by its class -/
def wnOf (mg : Str → Option Value) (W : WX) : WN := fun σ c H => ∀ C, mg c = some (.ref C) → W (.ref C) none σ H
section
variable {X : Cx} {G : Sig} {call : Nat → List Sl → Res (Sl × List Sl)} {W : WX} {ie : I} {pos p : Pos} {a : Expr} {es : List Expr} {k f : Nat} {fa : Addr} {fd : FuncData} {ps : List Str} {x : Str}
theorem row_len {K : PySem.W.Frag} {Wn : WN} : ∀ (ie : I), isRow ie = true → ∀ {e e1 : Env} {as : List AV}, argsOf (ev G call ie e) = .ok (as, e1) → as.length = (heads K Wn G call ie).length := by
  intro ie
  induction ie with
  | nilE => intro _ e e1 as h; cases h; rfl
  | argN i es ih =>
    intro hr e e1 as h
    rw [ev] at h
    have main : argsOf ((argsOf (ev G call es e)).bind fun p => .ok (.args (.nm i :: p.1), p.2)) = .ok (as, e1) → as.length = (heads K Wn G call (.argN i es)).length := fun h => by
      cases hq : argsOf (ev G call es e) with
      | bad => rw [hq] at h; cases h
      | ex c => rw [hq] at h; cases h
      | ok p => rw [hq] at h; cases h; simp [heads, ih hr hq]
    split at h
    · exact main h
    · exact main h
    · cases h
  | consE a es _ ih =>
    intro hr e e1 as h
    rw [ev] at h
    cases hv : valOf (ev G call a e) with
    | bad => rw [hv] at h; cases h
    | ex c => rw [hv] at h; cases h
    | ok q =>
      rw [hv] at h
      simp only [Res.bind_ok] at h
      cases hq : argsOf (ev G call es q.2) with
      | bad => rw [hq] at h; cases h
      | ex c => rw [hq] at h; cases h
      | ok p => rw [hq] at h; cases h; simp [heads, ih hr hq]
  | _ => intro hr; exact nomatch (show false = true from hr)
theorem e_call (hr : Room k X.A) (hgu : X.A.guards = some []) (tk : Takes X W) (F : FnG X.prog X.w X.K X.mg X.base k fa fd ps (spF X.K X.mg ps (call f))) (hm : X.mg x = some (.ref fa)) (hk : PySem.W.keepIn X.K (.ref fa) = true) (hb : Binds X.K fd ps [])
    (hg : Gl X x) (hdb : (x == ("__debug__" : Str)) = false) (hlen : ps.length = (a :: es).length) (hrow : isRow ie = true) (h : SArgs X (a :: es) (heads X.K (wnOf X.mg W) G call ie)) :
    PE X (.Call (.Name x p) (a :: es) [] pos) (rE X (wnOf X.mg W) G call (.call f ie)) := by
  refine pe_imp (pe_callG F hr hgu hg hm hk hb tk h.pa hdb (star_cons h.fst) h.snd) fun σ H Q ⟨Z, en, E, q⟩ => ?_
  have q' : EW X.K Z en σ H (wnOf X.mg W σ) (valOf (ev G call (.call f ie) en)) Q := q
  rw [ev] at q'
  have lens : ∀ {ie : I} {es : List Expr}, SArgs X es (heads X.K (wnOf X.mg W) G call ie) → (heads X.K (wnOf X.mg W) G call ie).length = es.length := by
    intro ie es h
    generalize heads X.K (wnOf X.mg W) G call ie = ts at h
    induction h with
    | nil => rfl
    | cons _ _ _ ih => simp [ih]
  refine aw_chain ie hrow E ?_
  cases hq : argsOf (ev G call ie en) with
  | bad => rw [hq] at q'; exact q'
  | ex c => rw [hq] at q'; exact q'
  | ok p =>
    obtain ⟨as, e1⟩ := p
    rw [hq] at q'
    simp only [Res.bind_ok] at q'
    intro vs H1 Zf S A
    have hvl := A.len.trans (row_len (K := X.K) (Wn := wnOf X.mg W) ie hrow hq)
    cases hh : hand e1 as with
    | none => rw [hh] at q'; exact q'.elim
    | some ss =>
      rw [hh] at q'
      simp only at q'
      by_cases ho : once e1 as = true
      · rw [if_pos ho] at q'
        obtain ⟨Zc, Ec, back⟩ := call_glue (v0 := ()) S A hh ho
        refine ⟨by rw [hvl, lens h, hlen], Zc, ss, Ec, ?_⟩
        cases hc : call f ss with
        | bad => rw [hc] at q'; exact q'
        | ex c =>
          rw [hc] at q'
          intro H' kp C hC
          refine q' H' (fun b o y n => kp b o (S.keep b o y n) fun z => ?_) C hC
          -- an argument's own address
          obtain ⟨j, d, j1, j2⟩ := z
          have j2' : vs[j]? = some (.ref b) := by rw [List.getElem?_map] at j2; cases hvj : vs[j]? with
            | none => rw [hvj] at j2; cases j2
            | some w => rw [hvj] at j2; simp at j2; rw [j2]
          rcases hand_at hh j1 with ⟨i, i1, i2, _⟩ | i1
          · obtain ⟨w, w1, w2⟩ := A.at_nm i1
            rw [j2'] at w1; cases w1
            exact n (S.own b ⟨i, d, i2, w2⟩)
          · obtain ⟨b', b1, b2, b3, _⟩ := A.at_ow i1
            rw [j2'] at b1; cases b1
            rcases S.new b b3 with z | z | z
            · exact b2 z
            · rw [y] at z; cases z
            · exact n z
        | ok r =>
          obtain ⟨s, os⟩ := r
          rw [hc] at q'
          intro v H2 T rv
          obtain ⟨T2, r2⟩ := back T rv
          exact q' v H2 T2 r2
      · rw [if_neg ho] at q'; exact q'.elim
end
end RF


/-! RFX3: the def that tells an error's class by a word, called where the error is handled -/
namespace RF
open PySem PySem.Spec PyProof.Rows L2
def gl0 (sc : Scope) (x : Str) : Bool := decide (sc.names.lookup x = some .globalImplicit)
def mtIs (sc : Scope) : List Expr → List Str → Bool
  | [], [] => true
  | .Call (.Name f _) [.Name v _, .Name c _] [] _ :: es, x :: xs => decide (f = "isinstance") && decide (v = "e") && decide (c = x) && gl0 sc x && !(x == ("__debug__" : Str)) && mtIs sc es xs
  | _, _ => false
def mtWs : List Expr → List Str → Bool
  | [], [] => true
  | .Constant (.str s) _ _ :: es, x :: xs => decide (s = x) && mtWs es xs
  | _, _ => false
def mtStr (sc : Scope) : List Expr → Bool
  | [] => true
  | [.Compare (.Call (.Name f _) [.Name v _] [] _) [.NotEq] [.Constant (.str em) _ _] _] => decide (f = "str") && decide (v = "e") && decide (em = Str.empty) && gl0 sc "str"
  | _ => false
def mtCls (sc : Scope) (b : List Stmt) (cs ns : List Str) : Bool := match b with
  | [.Assign [.Name k _] (.List es _) _, .If (.BoolOp .Or (.Compare (.Call (.Attribute (.Name k2 _) m ap) [.Constant (.bool bt) _ _] [] cp) [.NotEq] [.Constant (.int one) _ _] _ :: .UnaryOp .Not (.Call (.Name f _) [.Name v _, .Name ve _] [] _) _ :: xs) _) [.Return (some (.Constant (.str s) _ _)) _] [] _,
     .Return (some (.Subscript (.List ts _) (.Call (.Attribute (.Name k3 _) m2 ap2) [.Constant (.bool bt2) _ _] [] cp2) _)) _] =>
    decide (k = "kinds") && decide (k2 = "kinds") && decide (k3 = "kinds") && decide (m = "count") && decide (m2 = "index") && bt && bt2 && decide (one = 1) && decide (f = "isinstance") && decide (v = "e") && decide (ve = "ValueError") && (ap.endLine == cp.line) && (ap2.endLine == cp2.line) &&
      mtIs sc es cs && mtWs ts ns && gl0 sc "isinstance" && gl0 sc "ValueError" && decide (sc.names.lookup ("e" : Str) = some .local) && decide (sc.names.lookup ("kinds" : Str) = some .local) && decide (cs.length < 30) && decide (ns.length = cs.length) && mtStr sc xs
  | _ => false
theorem cls_inv {sc : Scope} {b : List Stmt} {cs ns : List Str} (h : mtCls sc b cs ns = true) : ∃ (p1 p2 p3 p4 ap p5 p6 cp p7 p8 p9 p10 p11 p12 p13 p14 p15 p16 p17 p18 ap2 p19 p20 p21 cp2 p22 p23 : Pos) (j1 j2 j3 j4 : Nat) (s : Str) (es ts xs : List Expr),
    b = [.Assign [.Name "kinds" p1] (.List es p2) p3, .If (.BoolOp .Or (.Compare (.Call (.Attribute (.Name "kinds" p4) "count" ap) [.Constant (.bool true) j1 p5] [] cp) [.NotEq] [.Constant (.int 1) j2 p6] p7 :: .UnaryOp .Not (.Call (.Name "isinstance" p8) [.Name "e" p9, .Name "ValueError" p10] [] p11) p12 :: xs) p13) [.Return (some (.Constant (.str s) j3 p14)) p15] [] p16,
     .Return (some (.Subscript (.List ts p17) (.Call (.Attribute (.Name "kinds" p18) "index" ap2) [.Constant (.bool true) j4 p19] [] cp2) p20)) p21] ∧
    (ap.endLine == cp.line) = true ∧ (ap2.endLine == cp2.line) = true ∧ mtIs sc es cs = true ∧ mtWs ts ns = true ∧ gl0 sc "isinstance" = true ∧ gl0 sc "ValueError" = true ∧ sc.names.lookup ("e" : Str) = some .local ∧ sc.names.lookup ("kinds" : Str) = some .local ∧ cs.length < 30 ∧ ns.length = cs.length ∧ mtStr sc xs = true := by
  unfold mtCls at h
  split at h
  · simp only [Bool.and_eq_true, decide_eq_true_eq] at h
    obtain ⟨⟨⟨⟨⟨⟨⟨⟨⟨⟨⟨⟨⟨⟨⟨⟨⟨⟨⟨⟨⟨rfl, rfl⟩, rfl⟩, rfl⟩, rfl⟩, rfl⟩, rfl⟩, rfl⟩, rfl⟩, rfl⟩, rfl⟩, h1⟩, h2⟩, h3⟩, h4⟩, h5⟩, h6⟩, h7⟩, h8⟩, h9⟩, h10⟩, h11⟩ := h
    exact ⟨_, _, _, _, _, _, _, _, _, _, _, _, _, _, _, _, _, _, _, _, _, _, _, _, _, ⟨0, 0, 0, 0⟩, ⟨0, 0, 0, 0⟩, _, _, _, _, _, _, _, _, rfl, h1, h2, h3, h4, h5, h6, h7, h8, h9, h10, h11⟩
  · cases h
/-- how isinstance answers of the classes by their names -/
def IsFacts (K : PySem.W.Frag) (mg : Str → Option Value) (D : Addr) : List Str → List Bool → Prop
  | [], [] => True
  | c :: cs, b :: bs => (∃ C, mg c = some (.ref C) ∧ PySem.W.kitOne K (.ref D) (.ref C) = some b) ∧ IsFacts K mg D cs bs
  | _, _ => False
theorem IsFacts.len {K : PySem.W.Frag} {mg : Str → Option Value} {D : Addr} : ∀ {cs : List Str} {bs : List Bool}, IsFacts K mg D cs bs → bs.length = cs.length
  | [], [], _ => rfl
  | [], _ :: _, h => h.elim
  | _ :: _, [], h => h.elim
  | _ :: cs, _ :: bs, h => by rw [List.length_cons, List.length_cons, h.2.len]
theorem dps_bl {K : PySem.W.Frag} {H : Hp} : ∀ bs : List Bool, DpAll K H (bs.map V.bl) (bs.map PyData.bool)
  | [] => .nil
  | b :: bs => .cons (.bl b) (dps_bl bs)
theorem shaped_bls : ∀ bs : List Bool, SeqAt.shaped (.list (bs.map PyData.bool)) = true := fun bs => by
  have key : ∀ bs : List Bool, PyData.canLayAll0 (bs.map PyData.bool) = true ∧ PyData.depthAll (bs.map PyData.bool) ≤ 1 := fun bs => by
    induction bs with
    | nil => exact ⟨rfl, Nat.zero_le _⟩
    | cons b bs ih => exact ⟨by rw [List.map_cons]; simp [PyData.canLayAll0, PyData.canLay0, ih.1], by rw [List.map_cons]; simp only [PyData.depthAll, PyData.depth]; omega⟩
  obtain ⟨k1, k2⟩ := key bs
  unfold SeqAt.shaped
  rw [Bool.and_eq_true]
  exact ⟨by rw [PyData.canLay0]; exact k1, decide_eq_true (by rw [PyData.depth]; omega)⟩
section
variable {X : Cx} {a D T0 : Addr} {oe : Obj}
theorem gl_of {x : Str} (h : gl0 X.env.scope x = true) : Gl X x := by
  show X.env.scope.names.lookup x = some .globalImplicit
  exact of_decide_eq_true h
theorem pa_is (hn0 : X.N[0]? = some ("e" : Str)) (hloc : X.env.scope.names.lookup ("e" : Str) = some .local) (hgi : Gl X "isinstance") (hmi : X.mg "isinstance" = none) (hp : (a, oe) ∈ X.pn) (C : ExcC X.K D) (hz : Zc (.ref D) none oe) (hf : ∃ vs, oe.data = .fields vs) :
    ∀ (es : List Expr) (cs : List Str) (bs : List Bool), mtIs X.env.scope es cs = true → IsFacts X.K X.mg D cs bs → PA X es (fun σ H Q => σ[0]? = some (some (.ref a)) ∧ Q (bs.map V.bl) H) := by
  intro es
  induction es with
  | nil =>
    intro cs bs h k
    cases cs with
    | cons _ _ => exact nomatch (show false = true from h)
    | nil =>
      cases bs with
      | cons _ _ => exact k.elim
      | nil => exact pa_imp pa_nil fun σ H Q q => q.2
  | cons e es ih =>
    intro cs bs h k
    unfold mtIs at h
    split at h
    · rename_i heq; cases heq
    · rename_i f p1 v p2 c p3 p4 es' x xs heq
      cases heq
      cases bs with
      | nil => exact k.elim
      | cons b bs =>
        simp only [Bool.and_eq_true, decide_eq_true_eq] at h
        obtain ⟨⟨⟨⟨⟨rfl, rfl⟩, rfl⟩, h1⟩, h2⟩, h3⟩ := h
        obtain ⟨⟨Cx, g1, g2⟩, k2⟩ := k
        have pe : PE X (.Call (.Name "isinstance" p1) [.Name "e" p2, .Name c p3] [] p4) (fun σ H Q => σ[0]? = some (some (.ref a)) ∧ Q (.bl b) H) := by
          refine pe_imp (pe_callB (call_isP hp C hz hf) hgi hmi (by decide +kernel) (pa_cons (pe_var (i := 0) hn0 (.inl hloc) (by decide +kernel) (by decide +kernel)) (pa_cons (pe_glob (v := .ref Cx) (gl_of h1) g1 rfl (by simpa using h2)) pa_nil))) fun σ H Q q => ?_
          exact ⟨.ref a, q.1, .ref Cx, .ref Cx, b, rfl, fun u r => r, g2, q.2⟩
        exact pa_imp (pa_cons pe (ih xs bs h3 k2)) fun σ H Q q => ⟨q.1, q.1, q.2⟩
    · cases h
theorem pa_ws : ∀ (ts : List Expr) (ns : List Str), mtWs ts ns = true → PA X ts (fun _ H Q => Q (ns.map V.str) H) := by
  intro ts
  induction ts with
  | nil =>
    intro ns h
    cases ns with
    | cons _ _ => exact nomatch (show false = true from h)
    | nil => exact pa_nil
  | cons e es ih =>
    intro ns h
    unfold mtWs at h
    split at h
    · rename_i heq; cases heq
    · rename_i s p1 p2 es' x xs heq
      cases heq
      simp only [Bool.and_eq_true, decide_eq_true_eq] at h
      obtain ⟨rfl, h3⟩ := h
      exact pa_cons pe_str (ih xs h3)
    · cases h
/-- str(e) of an error without arguments that is pinned -/
theorem call_strE (hu : X.A.units + 2 < cLine) (hp : (a, oe) ∈ X.pn) (C : ExcC X.K D) (hst : PySem.W.findIn X.K (.ref D) "__str__" = some (some (.builtin "BaseException.__str__"))) (hz : Za T0 (.ref D) none oe) (hf : ∃ vs, oe.data = .fields vs) :
    CallR X (.type "str") (fun xs H Q => xs = [.ref a] ∧ H T0 = some (.tup []) ∧ Q (.str Str.empty) H) := by
  intro pins s σ H xs us Q I r ⟨e0, hT, q⟩
  subst e0
  cases r with
  | cons rx rr =>
    cases rr
    cases rx
    have hget := (I.pin (a, oe) (List.mem_append_left _ hp)).1
    obtain ⟨vs, hv⟩ := hf
    obtain ⟨its, r1, ⟨o, ho, hc, n, hd⟩, _⟩ := I.tuple (SqT.of hT)
    cases r1
    exact PySem.P.str_of_C_none hu ⟨I.kIn, oe, vs, hget, hz.1.1, hv, hz.2 vs hv⟩ ⟨o, n, ho, hc, hd⟩ hst C.hs ⟨.str Str.empty, H, I.tok _, ⟨_, rfl⟩, q⟩
/-- the rest of the question: an error of ValueError's, its text empty -/
theorem pw_rest {xs : List Expr} {p8 p9 p10 p11 p12 p13 : Pos} (h : mtStr X.env.scope xs = true) (hn0 : X.N[0]? = some ("e" : Str)) (hloc : X.env.scope.names.lookup ("e" : Str) = some .local) (hgi : Gl X "isinstance") (hgv : Gl X "ValueError") (hu : X.A.units + 65 < cLine)
    (hmi : X.mg "isinstance" = none) (hmv : X.mg "ValueError" = none) (hms : X.mg "str" = none) (hp : (a, oe) ∈ X.pn) (C : ExcC X.K D) (hst : PySem.W.findIn X.K (.ref D) "__str__" = some (some (.builtin "BaseException.__str__"))) (hz : Za T0 (.ref D) none oe) (hf : ∃ vs, oe.data = .fields vs)
    (hv : PySem.W.kitOne X.K (.ref D) (.type "ValueError") = some true) : PW X (.BoolOp .Or (.UnaryOp .Not (.Call (.Name "isinstance" p8) [.Name "e" p9, .Name "ValueError" p10] [] p11) p12 :: xs) p13) (fun σ H Q => σ[0]? = some (some (.ref a)) ∧ H T0 = some (.tup []) ∧ Q false H) := by
  have vE : ∀ q : Pos, PE X (.Name "e" q) (tVar 0) := fun q => pe_var hn0 (.inl hloc) (by decide +kernel) (by decide +kernel)
  have P1 : PT X (.UnaryOp .Not (.Call (.Name "isinstance" p8) [.Name "e" p9, .Name "ValueError" p10] [] p11) p12) _ :=
    pt_not (pt_val (pe_callB (call_isP hp C hz.1 hf) hgi hmi (by decide +kernel) (pa_cons (vE _) (pa_cons (pe_bltn (v := .ty "ValueError") hgv hmv (by decide +kernel) rfl) pa_nil))))
  unfold mtStr at h
  split at h
  · refine ⟨fun wh pins s σ H Q I ⟨q0, hT, q⟩ => (pw_or1 P1).run wh pins s σ H Q I ?_⟩
    exact ⟨.ref a, q0, .ty "ValueError", .type "ValueError", true, rfl, fun u r => r, hv, true, rfl, q⟩
  · rename_i f p1 v p2 p3 em j p4 p5
    simp only [Bool.and_eq_true, decide_eq_true_eq] at h
    obtain ⟨⟨⟨rfl, rfl⟩, rfl⟩, hg⟩ := h
    refine ⟨fun wh pins s σ H Q I ⟨q0, hT, q⟩ => (pw_or P1 (pw_or1 (pt_cmpR op_ne (pe_callTy (call_strE (by omega) hp C hst hz hf) (gl_of hg) hms (by decide +kernel) (pa_cons (vE _) pa_nil)) pe_str rfl))).run wh pins s σ H Q I ?_⟩
    refine ⟨.ref a, q0, .ty "ValueError", .type "ValueError", true, rfl, fun u r => r, hv, true, rfl, ?_⟩
    exact ⟨.ref a, q0, rfl, hT, rfl, false, rfl, q⟩
  · cases h
/-- just one of the answers is yes, the one at j, and the word there is t -/
structure ClsT (bs : List Bool) (ns : List Str) (j : Nat) (t : Str) : Prop where
  one : ((bs.map PyData.bool).countP fun z => PyData.eqv z (.bool true)) = 1
  at_ : bs[j]? = some true
  before : ∀ (m : Nat) (z : PyData), m < j → (bs.map PyData.bool)[m]? = some z → PyData.eqv z (.bool true) = false
  word : ns[j]? = some t
theorem cls_body {b : List Stmt} {cs ns : List Str} {bs : List Bool} {j : Nat} {t : Str} (h : mtCls X.env.scope b cs ns = true) (hN : X.N = [("e" : Str), ("kinds" : Str)]) (hfn : ∀ x, X.fn x = true) (hu : X.A.units + 65 < cLine)
    (hmi : X.mg "isinstance" = none) (hmv : X.mg "ValueError" = none) (hms : X.mg "str" = none) (hp : (a, oe) ∈ X.pn) (C : ExcC X.K D) (hst : PySem.W.findIn X.K (.ref D) "__str__" = some (some (.builtin "BaseException.__str__"))) (hz : Za T0 (.ref D) none oe) (hf : ∃ vs, oe.data = .fields vs)
    (hv : PySem.W.kitOne X.K (.ref D) (.type "ValueError") = some true) (k : IsFacts X.K X.mg D cs bs) (T : ClsT bs ns j t) :
    PSs X b (fun E σ H => σ = [some (.ref a), none] ∧ H T0 = some (.tup []) ∧ ∀ H', (∀ p o, H p = some o → H' p = some o) → E.rt (.str t) H') := by
  obtain ⟨p1, p2, p3, p4, ap, p5, p6, cp, p7, p8, p9, p10, p11, p12, p13, p14, p15, p16, p17, p18, ap2, p19, p20, p21, cp2, p22, p23, j1, j2, j3, j4, s, es, ts, xs, rfl, l1, l2, m1, m2, g1, g2, e1, e2, len1, len2, m3⟩ := cls_inv h
  have n0 : X.N[0]? = some ("e" : Str) := by rw [hN]; rfl
  have n1 : X.N[1]? = some ("kinds" : Str) := by rw [hN]; rfl
  have nd : X.N.Nodup := by rw [hN]; decide +kernel
  have lz : bs.length ≤ sizeLine := by rw [k.len]; exact Nat.le_trans (Nat.le_of_lt len1) (by decide +kernel)
  have lz2 : ns.length ≤ sizeLine := by rw [len2]; exact Nat.le_trans (Nat.le_of_lt len1) (by decide +kernel)
  have P := pa_is n0 e1 (gl_of g1) hmi hp C hz.1 hf es cs bs m1 k
  have P3 : PW X (.BoolOp .Or (.UnaryOp .Not (.Call (.Name "isinstance" p8) [.Name "e" p9, .Name "ValueError" p10] [] p11) p12 :: xs) p13) _ := pw_rest m3 n0 e1 (gl_of g1) (gl_of g2) hu hmi hmv hms hp C hst hz hf hv
  have P2 := pa_ws (X := X) ts ns m2
  have vE : ∀ q : Pos, PE X (.Name "e" q) (tVar 0) := fun q => pe_var n0 (.inl e1) (by decide +kernel) (by decide +kernel)
  have vK : ∀ q : Pos, PE X (.Name "kinds" q) (tVar 1) := fun q => pe_var n1 (.inl e2) (by decide +kernel) (by decide +kernel)
  refine pss_imp (pss_cons (ps_set (i := 1) nd n1 (.inl e2) (pe_lst P) rfl (.inl (hfn _))) (pss_cons (ps_if (PW.pt (pw_or (pt_cmpR op_ne (pe_bm PySem.F.plainAttrs_list PySem.F.slot_list_count PySem.F.type_list_count (mt_cntD hu) (vK _) (pa_cons pe_bl pa_nil) rfl rfl l1) pe_int rfl) P3)) (pss_one (ps_ret pe_str)) pss_nil)
    (pss_one (ps_ret (pe_ix ix_list (pe_lst P2) (pe_bm PySem.F.plainAttrs_list PySem.F.slot_list_index PySem.F.type_list_index (mt_indexD hu) (vK _) (pa_cons pe_bl pa_nil) rfl rfl l2) fun _ _ => rfl))))) fun E σ H ⟨q0, hT, q⟩ => ?_
  subst q0
  refine ⟨rfl, by rw [List.length_map]; exact lz, fun p np => ?_⟩
  have hs : upd H p (.lst (bs.map V.bl)) p = some (.lst (bs.map V.bl)) := upd_same
  have sq : SqL X.K (upd H p (.lst (bs.map V.bl))) p (bs.map V.bl) := SqL.of hs
  have dl : Dp X.K (upd H p (.lst (bs.map V.bl))) (.ref p) (.list (bs.map PyData.bool)) := .lst sq (dps_bl bs)
  have g0 : ∀ b o, H b = some o → upd H p (.lst (bs.map V.bl)) b = some o := fun b o e => by
    rw [upd_ne (fun z => by rw [z, np] at e; cases e)]
    exact e
  have hw := T.one
  refine ⟨.ref p, rfl, .inl ⟨rfl, _, sq⟩, p, .bl true, .bool true, bs.map PyData.bool, rfl, rfl, dl, .bl true, shaped_bls bs, (by decide), ?_⟩
  rw [hw]
  refine ⟨rfl, false, rfl, ?_⟩
  refine ⟨rfl, by rw [upd_ne (fun z => by rw [z, np] at hT; cases hT)]; exact hT, ?_⟩
  refine ⟨by rw [List.length_map]; exact lz2, fun p' np' => ?_⟩
  have ne : p ≠ p' := fun z => by rw [← z, hs] at np'; cases np'
  have hs2 : upd (upd H p (.lst (bs.map V.bl))) p' (.lst (ns.map V.str)) p = some (.lst (bs.map V.bl)) := by rw [upd_ne ne]; exact hs
  have sq2 : SqL X.K (upd (upd H p (.lst (bs.map V.bl))) p' (.lst (ns.map V.str))) p (bs.map V.bl) := SqL.of hs2
  have hj : j < bs.length := (List.getElem?_eq_some_iff.mp T.at_).1
  have hjn : j < ns.length := (List.getElem?_eq_some_iff.mp T.word).1
  refine ⟨.ref p, rfl, .inl ⟨rfl, _, sq2⟩, p, .bl true, .bool true, bs.map PyData.bool, j, .bool true, rfl, rfl, .lst sq2 (dps_bl bs), .bl true, shaped_bls bs, (by decide), (by rw [List.getElem?_map, T.at_]; rfl), (by decide), T.before, ?_⟩
  refine ⟨p', ns.map V.str, (j : Nat), .str t, rfl, rfl, SqL.of upd_same, (by rw [atI_nat]; rw [List.getElem?_map, T.word]; rfl), q _ fun b o e => ?_⟩
  have e1 := g0 b o e
  rw [upd_ne (fun z => by rw [z, np'] at e1; cases e1)]
  exact e1
end
end RF


/-! RFX4: the telling def's promise; its call in an except suite -/
namespace RF
open PySem PySem.Spec PyProof.Rows L2
/-- what the def at f tells of an error of the class D: the word t -/
structure CFn (P : Program) (w : World) (K : PySem.W.Frag) (mg : Str → Option Value) (base : Heap) (f : Addr) (fd : FuncData) (tab : Addr → Str → Prop) : Prop where
  run : ∀ (A : Around) (outer : List PySem.Env) (s : Shared) (H : Hp) (args : PySem.Args) (Q : VK) (E : XK) (pn : Addr × Obj) (D T0 : Addr) (t : Str), L2H.RoomH 0 A → L2H.PinOk outer H s pn → Env0 P w K mg base A outer s H → BindsTo s fd args ([("e" : Str)].zip [Value.ref pn.1]) →
    Za T0 (.ref D) none pn.2 → H T0 = some (.tup []) → (∃ vs, pn.2.data = .fields vs) → tab D t → (∀ H', (∀ b o, H b = some o → H' b = some o) → Q (.str t) H') → codeAny (model P w) A (.call (.ref f) args) (CR (CXa P w) outer P w H s Q E) s
section
variable {P : Program} {w : World} {K : PySem.W.Frag} {mg : Str → Option Value} {base : Heap}
theorem cls_fn {x qual : Str} {st : Stmt} {f : Addr} {fd : FuncData} {cs ns : List Str} (F : Fun K x qual st f fd) (S : FnScope [("e" : Str), ("kinds" : Str)] [("e" : Str)] (defScope st)) (hm : mtCls (defScope st) (defBody st) cs ns = true) (mi : mg "isinstance" = none) (mv : mg "ValueError" = none) (ms : mg "str" = none) :
    CFn P w K mg base f fd (fun D t => ExcC K D ∧ PySem.W.findIn K (.ref D) "__str__" = some (some (.builtin "BaseException.__str__")) ∧ PySem.W.kitOne K (.ref D) (.type "ValueError") = some true ∧ ∃ bs j, IsFacts K mg D cs bs ∧ ClsT bs ns j t) := by
  obtain ⟨oc, od, kV, doc, pm, an, cdv, ct, osl, e0, lk, hcd⟩ := F.ex
  subst e0
  constructor
  intro A outer s H args Q E pn D T0 t hr pin env0 bd hz hT hf ⟨xc, hst, hv, bs, j, isf, clt⟩ q
  have K1 : K.In s.heap := env0.mod.kin.keeps fun b o e => (env0.bs b o e).1
  have L1 : s.heap.NoLimit := env0.mod.nolimit.keeps fun b o e => (env0.bs b o e).1
  refine codeAny_call_function hr.depth (K1 _ _ lk) rfl S.co S.gen rfl (PySem.W.codeRec_of K1 hcd) (bd _ _ _ _ ?_)
  refine wpAny_newFunctionEnv_cells S.kind (fun y hy => ?_) fun env he s1 z => ?_
  · rcases S.par y.1 (List.of_mem_zip hy).1 with k | k
    · exact .inl k
    · exact .inr ⟨k, PySem.W.cellsFrom_some _ _ _ (.inl k)⟩
  subst he
  refine ⟨L1.keeps z.toInCall.keep, codeAny_func ?_⟩
  have I := L2H.inv_startH (CX := CXa P w) (E := E) (f := f) (cd := cdv) (qual := qual) (us := [Value.ref pn.1]) (vs := [V.ref pn.1]) S pin env0 rfl (.cons rfl .nil) z
  have hu : (A.deeper (envOfC qual (defScope st) s.heap.objs.size f cdv)).units + 65 < cLine := by
    have := hr.un
    show A.units + 3 + 65 < cLine
    omega
  have B := cls_body (X := L2H.cxH (CXa P w) P w K mg base [("e" : Str), ("kinds" : Str)] qual (defScope st) f cdv A outer s H E pn) (a := pn.1) (oe := pn.2) hm rfl (fun _ => rfl) hu mi mv ms (List.mem_singleton.mpr rfl) xc hst hz hf hv isf clt
  refine wpAny_mono (B.run [] s1 _ H { nx := fun _ H' => Q .non H', rt := Q } I ⟨rfl, hT, q⟩) (fun fl s' hs => ?_) fun _ _ hs => hs
  match fl, hs with
  | .ret u, ⟨v, σ', H', J, rv, q⟩ => exact ⟨v, H', J.os, J.bare, J.base, J.hok, rv, q⟩
  | .next, ⟨σ', H', J, q⟩ => exact ⟨V.non, H', J.os, J.bare, J.base, J.hok, rfl, q⟩
  | .brk, ⟨_, _, _, q⟩ => exact q.elim
  | .cont, ⟨_, _, _, q⟩ => exact q.elim
end
section
variable {X : Cx}
/-- f(e) where the error at a is handled, i the slot of its name -/
theorem pe_tell {f : Addr} {fd : FuncData} {tab : Addr → Str → Prop} {a D T0 : Addr} {oe : Obj} {pn : List (Addr × Obj)} {i : Nat} {x n : Str} {p q pos : Pos} {t : Str} (F : CFn X.prog X.w X.K X.mg X.base f fd tab) (hr : L2H.RoomH 0 X.A) (hg : Gl X x) (hm : X.mg x = some (.ref f)) (hk : PySem.W.keepIn X.K (.ref f) = true) (hb : Binds X.K fd ["e"] [])
    (hdb : (x == ("__debug__" : Str)) = false) (hN : X.N[i]? = some n) (hv : Vis X.env.scope n) (nd : (n == ("__debug__" : Str)) = false) (nc : (n == ("__classdict__" : Str)) = false) (hz : Za T0 (.ref D) none oe) (hf : ∃ vs, oe.data = .fields vs) (ht : tab D t) (hst : X.stack = X.env :: X.outer) :
    PE (X.suite a ((a, oe) :: pn)) (.Call (.Name x p) [.Name n q] [] pos) (fun σ H Q => σ[i]? = some (some (.ref a)) ∧ H T0 = some (.tup []) ∧ ∀ H', (∀ b o, H b = some o → H' b = some o) → Q (.str t) H') := by
  constructor
  intro pins s σ H Q I ⟨hs, hT, h⟩
  refine wpAny_Call_Name_kw (ld_glob I hg hm ?_ hdb)
  have pa : PA (X.suite a ((a, oe) :: pn)) [.Name n q] (tCons (tVar i) tNil) := pa_cons (pe_var hN hv nd nc) pa_nil
  refine PySem.W.callWith_K (h₀ := X.base) I.ok.mod.kin hk ?_ rfl rfl
  refine thn (pa.run pos pins s σ H (fun vs H1 => vs = [V.ref a] ∧ H = H1) I ⟨_, hs, rfl, rfl⟩) fun us s1 ⟨vs, H1, I1, r, e1, e2⟩ => ⟨I1.kIn, ?_⟩
  subst e1
  subst e2
  have eu : us = [Value.ref a] := by
    cases r with
    | cons r1 r2 => cases r1; cases r2; rfl
  subst eu
  have b1 : BindsTo s1 fd ⟨[Value.ref a], []⟩ ([("e" : Str)].zip [Value.ref a]) := by simpa using hb s1 [Value.ref a] I1.kIn rfl
  have P1 := I1.pin (a, oe) (List.mem_append_left _ List.mem_cons_self)
  have pin : L2H.PinOk (X.suite a ((a, oe) :: pn)).stack H s1 (a, oe) := ⟨P1.1, P1.2.1, fun hm => (List.mem_cons.mp (I1.stkSub a hm)).elim P1.2.2.1 P1.2.2.2.1, P1.2.2.2.2⟩
  refine wpAny_call (codeAny_mono (F.run (X.suite a ((a, oe) :: pn)).A _ s1 H ⟨[Value.ref a], []⟩ Q (fun _ _ _ => False) (a, oe) D T0 t ⟨hr.dp, hr.un⟩ pin I1.env0 b1 hz hT hf ht h) ?_)
  intro res s' hq
  match res, hq with
  | .error e, hq => obtain ⟨_, _, _, _, _, _, _, _, _, _, _, _, no, _⟩ := hq; exact no.elim
  | .ok (.ret u), hq => exact I1.after hq
  | .ok .next, hq => exact hq.elim
  | .ok .brk, hq => exact hq.elim
  | .ok .cont, hq => exact hq.elim
end
end RF


/-! RFS: raise, try, tuple(range(..)) -/
namespace RF
open PySem PySem.Spec PyProof.Rows L2
section
variable {X : Cx} {G : Sig} {call : Nat → List Sl → Res (Sl × List Sl)} {W : WX} {is : List Nat} {jb : I} {x : Str} {p pos pos' : Pos}
/-- an own error's class -/
structure Exc1 (K : PySem.W.Frag) (C : Addr) : Prop where
  ex : PySem.W.excIn K C [.type "ValueError", .type "Exception", .type "BaseException", .type "object"] "ValueError.__new__" = true
  kp : PySem.W.keepIn K (.ref C) = true
  sb : PySem.W.subIn K (.ref C) (.type "BaseException") = some true
  ty : PySem.W.typeIn K (.ref C) = some (.type "type")
theorem s_raise {C : Addr} (hc : X.calm = true) (tk : Takes X W) (hm : X.mg x = some (.ref C)) (E1 : Exc1 X.K C) (hg : Gl X x) (hdb : (x == ("__debug__" : Str)) = false) : PS X (.Raise (some (.Call (.Name x p) [] [] pos)) none pos') (rS X (wnOf X.mg W) G call is (.raiseS x)) :=
  ps_imp (ps_raiseBare hc tk PySem.F.excBase_ValueError E1.ex hm E1.kp (raises_own E1.sb E1.ty) hg hdb) fun D σ H ⟨Z, e, E, q⟩ t nt => q σ (upd H t (.tup [])) (fun b o y _ => by rw [upd_ne (fun z => by rw [z, nt] at y; cases y)]; exact y) rfl (fun _ _ => rfl) C hm
theorem un_get {e : Env} {i : Nat} {s : Sl} (h : (e.map fun _ => Sl.un)[i]? = some s) : s = .un := by
  rw [List.getElem?_map] at h
  cases hq : e[i]? with
  | none => rw [hq] at h; cases h
  | some z => rw [hq] at h; exact (Option.some.inj h).symm
theorem un_own {e : Env} {σ : St} {a : Addr} (h : Own (e.map fun _ => Sl.un) σ a) : False := by
  obtain ⟨i, d, h1, _⟩ := h
  exact nomatch (un_get h1)
/-- where an error was caught nothing is known of the names -/
theorem caught_run {K : PySem.W.Frag} {Z : Addr → Prop} {e : Env} {σ σ' : St} {H H' H2 : Hp} {v : V} {d : D} (E : EnvOk K Z e σ H) (k : Keeps (Own e σ) H H') (l : σ'.length = σ.length) (m : ∀ i, i ∉ is → σ'[i]? = σ[i]?) (gr : ∀ b o, H' b = some o → H2 b = some o) :
    Run K Z (Zp Z v (.sh d)) is e σ H (e.map fun _ => .un) σ' H2 := by
  have zs : ∀ a, Zp Z v (.sh d) a → Z a := fun a z => z.elim id False.elim
  refine ⟨⟨by rw [List.length_map, E.len, l], fun i d' h => (nomatch (un_get h)), fun i d' h => (nomatch (un_get h)), fun i j d1 d2 a h => (nomatch (un_get h)), fun a z => ?_⟩, fun a o h n => gr a o (k a o h n), fun a h => (un_own h).elim, fun a z => .inl z, fun a z => .inl (zs a z), l, m⟩
  obtain ⟨o, ho⟩ := E.dom a (zs a z)
  exact ⟨o, gr a o (k a o ho fun w => E.own_nz w (zs a z))⟩
/-- what is told where the error is handled -/
def tTell (tab : Addr → Str → Prop) (i : Nat) (R : Str → Hp → VK → Prop) (a : Addr) (cls : Value) (d : Option Addr) : TS := fun E σ H => ∃ D t, cls = .ref D ∧ d = none ∧ tab D t ∧ σ[i]? = some (some (.ref a)) ∧ ∀ H', (∀ b o, H b = some o → H' b = some o) → R t H' E.rt
structure TryOk (K : PySem.W.Frag) (mg : Str → Option Value) (G : Sig) (x : Str) (P : Addr) (tab : Addr → Str → Prop) : Prop where
  sub : ∀ c b, G.sub.lookup (c, x) = some b → ∀ C, mg c = some (.ref C) → PySem.W.exmOne K (.ref C) (.ref P) = some b
  tab : ∀ c t, G.tab.lookup c = some t → ∀ C, mg c = some (.ref C) → tab C t
theorem try_read {P : Addr} {tab : Addr → Str → Prop} {i : Nat} {h : Str → D} {R : Str → Hp → VK → Prop} (T : TryOk X.K X.mg G x P tab)     (hR : ∀ (Z : Addr → Prop) (e : Env) (σ : St) (t : Str) (H : Hp) (Q : VK), (∀ v H', (∀ b o, H b = some o → H' b = some o) → (∀ a, Z a → ∃ o, H a = some o) → VOk X.K Z (e.map fun _ => .un) σ H' v (.sh (h t)) → Q v H') → (∀ a, Z a → ∃ o, H a = some o) → R t H Q) (D : Ends) (σ : St) (H : Hp)
    (q : tS X.K (wnOf X.mg W) is (fun e => flOf (if i < e.length then caught G x h (ev G call jb e) e else .bad)) D σ H) : tS X.K (wnOf X.mg (wAs X.K (.ref P) i (tTell tab i R) W D)) is (fun e => flOf (ev G call jb e)) D σ H := by
  obtain ⟨Z, e, E, q⟩ := q
  refine ⟨Z, e, E, ?_⟩
  have q' : SW X.K Z is e σ H (wnOf X.mg W) (flOf (if i < e.length then caught G x h (ev G call jb e) e else .bad)) D := q
  by_cases hi : i < e.length
  case neg => rw [if_neg hi] at q'; exact q'.elim
  rw [if_pos hi] at q'
  show SW X.K Z is e σ H _ (flOf (ev G call jb e)) D
  cases hev : ev G call jb e with
  | bad => rw [hev] at q'; exact q'
  | ok p =>
    rw [hev] at q'
    obtain ⟨o, e'⟩ := p
    cases o with
    | fl f => cases f <;> exact q'
    | _ => exact q'.elim
  | ex c =>
    rw [hev] at q'
    unfold caught at q'
    simp only at q'
    cases hs : G.sub.lookup (c, x) with
    | none => rw [hs] at q'; exact q'.elim
    | some b =>
      rw [hs] at q'
      intro σ' H' k l m C hC
      refine ⟨b, T.sub c b hs C hC, fun hb a na => ?_, fun hb => ?_⟩
      · subst hb
        simp only at q'
        cases ht : G.tab.lookup c with
        | none => rw [ht] at q'; exact q'.elim
        | some t =>
          rw [ht] at q'
          refine ⟨C, t, rfl, rfl, T.tab c t ht C hC, List.getElem?_set_self (by rw [l, ← E.len]; exact hi), fun H2 gr => ?_⟩
          have dom : ∀ a, Z a → ∃ o, H2 a = some o := fun a z => by
            obtain ⟨o, ho⟩ := E.dom a z
            exact ⟨o, gr a o (k a o ho fun w => E.own_nz w z)⟩
          refine hR Z e σ' t H2 D.rt (fun v H3 g3 _ r => ?_) dom
          exact q' v σ' H3 (caught_run E k l m fun b o y => g3 b o (gr b o y)) r
      · subst hb
        simp only at q'
        exact q' σ' H' k l m C hC
section
variable {P f : Addr} {fd : FuncData} {tab : Addr → Str → Prop} {i : Nat} {n fx : Str} {body : List Stmt} {np fp nq cp rp : Pos}
/-- the facts of a try whose clause hands the error to the telling def -/
structure TryX (X : Cx) (G : Sig) (W : WX) (x : Str) (P f : Addr) (fd : FuncData) (tab : Addr → Str → Prop) (i : Nat) (n fx : Str) : Prop where
  stk : X.stack = X.env :: X.outer
  fr : X.env.frame = some X.env.locals
  nd : X.N.Nodup
  hN : X.N[i]? = some n
  loc : X.env.kindOf n = some .local
  dbg : (n == ("__debug__" : Str)) = false
  cld : (n == ("__classdict__" : Str)) = false
  gx : Gl X x
  dx : (x == ("__debug__" : Str)) = false
  mx : X.mg x = some (.ref P)
  tk : Takes X W
  ok : TryOk X.K X.mg G x P tab
  fn : CFn X.prog X.w X.K X.mg X.base f fd tab
  room : L2H.RoomH 0 X.A
  gf : Gl X fx
  df : (fx == ("__debug__" : Str)) = false
  mf : X.mg fx = some (.ref f)
  kf : PySem.W.keepIn X.K (.ref f) = true
  bf : Binds X.K fd [("e" : Str)] []
theorem s_tryA (T : TryX X G W x P f fd tab i n fx) (hb : ∀ (W' : WX) (pn : List (Addr × Obj)) (xe : Value → Shared → Prop), Takes (X.tr pn xe) W' → PassesOwn (model X.prog X.w) X.A X.env xe → PSs (X.tr pn xe) body (rS X (wnOf X.mg W') G call is jb)) :
    PS X (.Try body [.ExceptHandler (some (.Name x np)) (some n) [.Return (some (.Call (.Name fx fp) [.Name n nq] [] cp)) rp] pos'] [] [] pos) (rS X (wnOf X.mg W) G call is (.tryA i x jb)) := by
  refine ps_imp (ps_try_a (i := i) (ts := tTell tab i fun t H Q => Q (.str t) H) (Wout := W) (tb := fun W' => rS X (wnOf X.mg W') G call is jb) T.stk T.fr T.nd T.hN T.loc ⟨T.gx, T.dx, .inl T.mx⟩ T.tk hb fun a T0 oe cls d H0 pn hz hT0 hf => ?_) fun D σ H q => ?_
  · constructor
    intro pins s σ H E I ⟨eH, D, t, e1, e2, ht, hs, q⟩
    subst e1 e2 eH
    exact (pss_one (ps_ret (pe_tell T.fn T.room T.gf T.mf T.kf T.bf T.df T.hN (.inl T.loc) T.dbg T.cld hz hf ht T.stk))).run pins s σ H E I ⟨hs, hT0, q⟩
  · refine try_read (h := fun s => .str s) T.ok (fun Z e σ t H Q k dom => k _ H (fun _ _ y => y) dom (.str t)) D σ H ?_
    obtain ⟨Z, e, E, q⟩ := q
    refine ⟨Z, e, E, ?_⟩
    have q' : SW X.K Z is e σ H (wnOf X.mg W) (flOf (ev G call (.tryA i x jb) e)) D := q
    rw [ev] at q'
    exact q'
theorem s_tryT {w0 : Str} {j0 : Nat} {sp tp : Pos} {k0 : Nat} (T : TryX X G W x P f fd tab i n fx) (hb : ∀ (W' : WX) (pn : List (Addr × Obj)) (xe : Value → Shared → Prop), Takes (X.tr pn xe) W' → PassesOwn (model X.prog X.w) X.A X.env xe → PSs (X.tr pn xe) body (rS X (wnOf X.mg W') G call is jb)) :
    PS X (.Try body [.ExceptHandler (some (.Name x np)) (some n) [.Return (some (.Tuple [.Constant (.str w0) j0 sp, .Call (.Name fx fp) [.Name n nq] [] cp] k0 tp)) rp] pos'] [] [] pos) (rS X (wnOf X.mg W) G call is (.tryT i x w0 jb)) := by
  refine ps_imp (ps_try_a (i := i) (ts := tTell tab i fun t H Q => ∀ p, H p = none → Q (.ref p) (upd H p (.tup [.str w0, .str t]))) (Wout := W) (tb := fun W' => rS X (wnOf X.mg W') G call is jb) T.stk T.fr T.nd T.hN T.loc ⟨T.gx, T.dx, .inl T.mx⟩ T.tk hb fun a T0 oe cls d H0 pn hz hT0 hf => ?_) fun D σ H q => ?_
  · constructor
    intro pins s σ H E I ⟨eH, D, t, e1, e2, ht, hs, q⟩
    subst e1 e2 eH
    exact (pss_one (ps_ret (pe_tup (pa_cons pe_str (pa_cons (pe_tell T.fn T.room T.gf T.mf T.kf T.bf T.df T.hN (.inl T.loc) T.dbg T.cld hz hf ht T.stk) pa_nil))))).run pins s σ H E I ⟨hs, hT0, fun H' g => ⟨by show 2 ≤ sizeLine; decide, fun p np => q H' g p np⟩⟩
  · refine try_read (h := fun s => .tup [.str w0, .str s]) T.ok (fun Z e σ t H Q k dom p np => k _ _ (fun b o y => ?_) dom ?_) D σ H ?_
    · rw [upd_ne (fun z => by rw [z, np] at y; cases y)]
      exact y
    · refine .tup (.inl ⟨.inl upd_same, fun z => ?_, fun z => un_own z⟩) (.cons (.str _) (.cons (.str _) .nil))
      obtain ⟨o, ho⟩ := dom p z
      rw [np] at ho
      cases ho
    · obtain ⟨Z, e, E, q⟩ := q
      refine ⟨Z, e, E, ?_⟩
      have q' : SW X.K Z is e σ H (wnOf X.mg W) (flOf (ev G call (.tryT i x w0 jb) e)) D := q
      rw [ev] at q'
      exact q'
end
/-! ### ranges laid out -/
theorem rgOk_of {a b : Int} (h : rgB a b = true) : RgOk a b := by
  unfold rgB at h
  rw [Bool.and_eq_true, Bool.and_eq_true] at h
  obtain ⟨a1, a2⟩ := inI h.1.1
  obtain ⟨b1, b2⟩ := inI h.1.2
  exact ⟨a1, a2, b1, b2, Nat.le_trans (of_decide_eq_true h.2) (by decide)⟩
theorem reps_rg {K : PySem.W.Frag} {ok : Addr → Prop} {H : Hp} (a b : Int) : Reps K ok H (rgV a b) (rngL a b) := by
  unfold rgV rngL
  generalize List.range (b - a).toNat = l
  induction l with
  | nil => exact .nil
  | cons x l ih => exact .cons (.int _) ih
theorem val_tupR {ie : I} {e : Env} : valOf (ev G call (.tupR ie) e) = opn pTupR (argsOf (ev G call ie e)) := by
  rw [ev]
  cases argsOf (ev G call ie e) with
  | bad => rfl
  | ex c => rfl
  | ok q =>
    obtain ⟨as, e1⟩ := q
    simp only [Res.bind_ok, opn]
    cases look e1 as with
    | none => rfl
    | some ds =>
      simp only
      cases pTupR ds with
      | none => rfl
      | some z => rfl
theorem val_tupR2 {ie : I} {e : Env} : valOf (ev G call (.tupR2 ie) e) = opn pTupR (argsOf (ev G call ie e)) := by
  rw [ev]
  cases argsOf (ev G call ie e) with
  | bad => rfl
  | ex c => rfl
  | ok q =>
    obtain ⟨as, e1⟩ := q
    simp only [Res.bind_ok, opn]
    cases look e1 as with
    | none => rfl
    | some ds =>
      simp only
      cases pTupR ds with
      | none => rfl
      | some z => rfl
theorem val_lstR {ie : I} {e : Env} : valOf (ev G call (.lstR ie) e) = opn pLstR (argsOf (ev G call ie e)) := by
  rw [ev]
  cases argsOf (ev G call ie e) with
  | bad => rfl
  | ex c => rfl
  | ok q =>
    obtain ⟨as, e1⟩ := q
    simp only [Res.bind_ok, opn]
    cases look e1 as with
    | none => rfl
    | some ds =>
      simp only
      cases pLstR ds with
      | none => rfl
      | some z => rfl
theorem val_lstR2 {ie : I} {e : Env} : valOf (ev G call (.lstR2 ie) e) = opn pLstR (argsOf (ev G call ie e)) := by
  rw [ev]
  cases argsOf (ev G call ie e) with
  | bad => rfl
  | ex c => rfl
  | ok q =>
    obtain ⟨as, e1⟩ := q
    simp only [Res.bind_ok, opn]
    cases look e1 as with
    | none => rfl
    | some ds =>
      simp only
      cases pLstR ds with
      | none => rfl
      | some z => rfl
theorem heads_mono1 {Wn : WN} {K : PySem.W.Frag} (ie : I) {t : TE} (e : heads K Wn G call ie = [t]) : ∀ σ H (Q Q' : VK), (∀ v H', Q v H' → Q' v H') → t σ H Q → t σ H Q' := heads_mono ie t (by rw [e]; exact List.mem_cons_self)
theorem heads_mono2 {Wn : WN} {K : PySem.W.Frag} (ie : I) {t u : TE} (e : heads K Wn G call ie = [t, u]) : (∀ σ H (Q Q' : VK), (∀ v H', Q v H' → Q' v H') → t σ H Q → t σ H Q') ∧ ∀ σ H (Q Q' : VK), (∀ v H', Q v H' → Q' v H') → u σ H Q → u σ H Q' :=
  ⟨heads_mono ie t (by rw [e]; exact List.mem_cons_self), heads_mono ie u (by rw [e]; exact List.mem_cons_of_mem _ List.mem_cons_self)⟩
theorem e_tupR {Wn : WN} {ie : I} {y z : Str} {p1 p2 p3 : Pos} {a : Expr} (hc : X.calm = true) (hy : y = "tuple") (hz : z = "range") (gy : Gl X y) (gz : Gl X z) (my : X.mg y = none) (mz : X.mg z = none) (hr : isRow ie = true) (h : SArgs X [a] (heads X.K Wn G call ie)) :
    PE X (.Call (.Name y p1) [.Call (.Name z p2) [a] [] p3] [] pos) (rE X Wn G call (.tupR ie)) := by
  subst hy hz
  obtain ⟨ta, eh, pa⟩ := h.one
  refine pe_imp (pe_tupRg hc gy my (prg_1 gz mz pa (star_cons h.fst)) (star_cons rfl)) fun σ H Q ⟨Z, en, E, q⟩ => ?_
  have q' : EW X.K Z en σ H (Wn σ) (valOf (ev G call (.tupR ie) en)) Q := q
  rw [val_tupR] at q'
  have q2 := aw_opn hr E q'
  rw [eh] at q2
  refine (heads_mono1 ie eh) σ H _ _ (fun x H1 ⟨ds, s, ok, e1, nw, ar, k⟩ => ?_) q2
  cases ar with
  | cons a1 r1 =>
    rename_i d1 ds1
    cases r1
    cases d1 with
    | int j =>
      cases a1.int
      have e1' : (if rgB 0 j then some (Sl.sh (.tup (rngL 0 j))) else none) = some s := e1
      split at e1'
      · rename_i hb
        cases e1'
        exact ⟨j, rfl, rgOk_of hb, fun b nb => k _ _ (ppost_tup nw nb (reps_rg _ _))⟩
      · cases e1'
    | _ => cases e1
theorem e_tupR2 {Wn : WN} {ie : I} {y z : Str} {p1 p2 p3 : Pos} {a b : Expr} (hc : X.calm = true) (hy : y = "tuple") (hz : z = "range") (gy : Gl X y) (gz : Gl X z) (my : X.mg y = none) (mz : X.mg z = none) (hr : isRow ie = true) (h : SArgs X [a, b] (heads X.K Wn G call ie)) :
    PE X (.Call (.Name y p1) [.Call (.Name z p2) [a, b] [] p3] [] pos) (rE X Wn G call (.tupR2 ie)) := by
  subst hy hz
  obtain ⟨ta, tb, eh, pa, pb⟩ := h.two
  refine pe_imp (pe_tupRg hc gy my (prg_2 gz mz pa pb (star_cons h.fst) (star_cons h.fst2) h.snd) (star_cons rfl)) fun σ H Q ⟨Z, en, E, q⟩ => ?_
  have q' : EW X.K Z en σ H (Wn σ) (valOf (ev G call (.tupR2 ie) en)) Q := q
  rw [val_tupR2] at q'
  have q2 := aw_opn hr E q'
  rw [eh] at q2
  refine (heads_mono2 ie eh).1 σ H _ _ (fun x H1 q3 => (heads_mono2 ie eh).2 σ H1 _ _ (fun y H2 ⟨ds, s, ok, e1, nw, ar, k⟩ => ?_) q3) q2
  cases ar with
  | cons a1 r1 =>
    rename_i d1 ds1
    cases r1 with
    | cons a2 r2 =>
      rename_i d2 ds2
      cases r2
      cases d1 with
      | int i =>
        cases d2 with
        | int j =>
          cases a1.int
          cases a2.int
          have e1' : (if rgB i j then some (Sl.sh (.tup (rngL i j))) else none) = some s := e1
          split at e1'
          · rename_i hb
            cases e1'
            exact ⟨i, j, rfl, rfl, rgOk_of hb, fun b nb => k _ _ (ppost_tup nw nb (reps_rg _ _))⟩
          · cases e1'
        | _ => cases e1
      | _ => cases e1
theorem e_lstR {Wn : WN} {ie : I} {y z : Str} {p1 p2 p3 : Pos} {a : Expr} (hc : X.calm = true) (hy : y = "list") (hz : z = "range") (gy : Gl X y) (gz : Gl X z) (my : X.mg y = none) (mz : X.mg z = none) (hr : isRow ie = true) (h : SArgs X [a] (heads X.K Wn G call ie)) :
    PE X (.Call (.Name y p1) [.Call (.Name z p2) [a] [] p3] [] pos) (rE X Wn G call (.lstR ie)) := by
  subst hy hz
  obtain ⟨ta, eh, pa⟩ := h.one
  refine pe_imp (pe_listRg hc gy my (prg_1 gz mz pa (star_cons h.fst)) (star_cons rfl)) fun σ H Q ⟨Z, en, E, q⟩ => ?_
  have q' : EW X.K Z en σ H (Wn σ) (valOf (ev G call (.lstR ie) en)) Q := q
  rw [val_lstR] at q'
  have q2 := aw_opn hr E q'
  rw [eh] at q2
  refine (heads_mono1 ie eh) σ H _ _ (fun x H1 ⟨ds, s, ok, e1, nw, ar, k⟩ => ?_) q2
  cases ar with
  | cons a1 r1 =>
    rename_i d1 ds1
    cases r1
    cases d1 with
    | int j =>
      cases a1.int
      have e1' : (if rgB 0 j then some (Sl.ow (.lst (rngL 0 j))) else none) = some s := e1
      split at e1'
      · rename_i hb
        cases e1'
        exact ⟨j, rfl, rgOk_of hb, fun b nb => k _ _ (ppost_lst nb (reps_rg _ _))⟩
      · cases e1'
    | _ => cases e1
theorem e_lstR2 {Wn : WN} {ie : I} {y z : Str} {p1 p2 p3 : Pos} {a b : Expr} (hc : X.calm = true) (hy : y = "list") (hz : z = "range") (gy : Gl X y) (gz : Gl X z) (my : X.mg y = none) (mz : X.mg z = none) (hr : isRow ie = true) (h : SArgs X [a, b] (heads X.K Wn G call ie)) :
    PE X (.Call (.Name y p1) [.Call (.Name z p2) [a, b] [] p3] [] pos) (rE X Wn G call (.lstR2 ie)) := by
  subst hy hz
  obtain ⟨ta, tb, eh, pa, pb⟩ := h.two
  refine pe_imp (pe_listRg hc gy my (prg_2 gz mz pa pb (star_cons h.fst) (star_cons h.fst2) h.snd) (star_cons rfl)) fun σ H Q ⟨Z, en, E, q⟩ => ?_
  have q' : EW X.K Z en σ H (Wn σ) (valOf (ev G call (.lstR2 ie) en)) Q := q
  rw [val_lstR2] at q'
  have q2 := aw_opn hr E q'
  rw [eh] at q2
  refine (heads_mono2 ie eh).1 σ H _ _ (fun x H1 q3 => (heads_mono2 ie eh).2 σ H1 _ _ (fun y H2 ⟨ds, s, ok, e1, nw, ar, k⟩ => ?_) q3) q2
  cases ar with
  | cons a1 r1 =>
    rename_i d1 ds1
    cases r1 with
    | cons a2 r2 =>
      rename_i d2 ds2
      cases r2
      cases d1 with
      | int i =>
        cases d2 with
        | int j =>
          cases a1.int
          cases a2.int
          have e1' : (if rgB i j then some (Sl.ow (.lst (rngL i j))) else none) = some s := e1
          split at e1'
          · rename_i hb
            cases e1'
            exact ⟨i, j, rfl, rfl, rgOk_of hb, fun b nb => k _ _ (ppost_lst nb (reps_rg _ _))⟩
          · cases e1'
        | _ => cases e1
      | _ => cases e1
end
end RF


namespace RF
open PySem PySem.Spec PyProof.Rows L2
/-! ### the match of a text and its I -/
inductive Nd where
  | E (e : Expr) | T (e : Expr) | A (es : List Expr) | It (tg e : Expr) | G (e : Expr) | Gs (es : List Expr) | Ifs (es : List Expr) | S (s : Stmt) | Ss (ss : List Stmt)
/-- the names of a def by place, the scope at hand, the scope of a comprehension's own cells, the places that may be stored -/
structure MC where
  N : List Str
  sc : Scope
  fn : Option Scope
  is : List Nat
/-- the module's defs by number (name, parameters), the names that it leaves to the builtins -/
structure GT where
  con : List (Nat × Str)
  fns : List (Nat × (Str × Nat))
  free : List Str
  /-- the classes of errors that are raised, that are named in except clauses; the def that tells an error's class -/
  exc : List Str := []
  par : List Str := []
  tell : Option Str := none
def vis (sc : Scope) (x : Str) : Bool := match sc.names.lookup x with
  | some .local => true | some .cell => true | some .free => true | _ => false
def locB (sc : Scope) (x : Str) : Bool := match sc.names.lookup x with
  | some .local => true | some .cell => true | _ => false
def glB (sc : Scope) (x : Str) : Bool := decide (sc.names.lookup x = some .globalImplicit)
def isLoc (sc : Scope) (x : Str) : Bool := decide (sc.names.lookup x = some .local)
def ndB (x : Str) : Bool := !(x == ("__debug__" : Str)) && !(x == ("__classdict__" : Str))
def fnB (M : MC) (x : Str) : Bool := match M.fn with
  | none => true
  | some s => decide (s.names.lookup x = some .cell)
def rdOk (M : MC) (i : Nat) (x : Str) : Bool := decide (M.N[i]? = some x) && vis M.sc x && ndB x
def stOk (M : MC) (i : Nat) (x : Str) : Bool := decide (M.N[i]? = some x) && locB M.sc x && (fnB M x || isLoc M.sc x)
def plainT : Expr → Bool
  | .BoolOp _ _ _ => false
  | .UnaryOp .Not _ _ => false
  | .IfExp _ _ _ _ => false
  | .Compare _ _ _ _ => false
  | _ => true
def notComp : Expr → Bool
  | .ListComp _ _ _ _ => false
  | .SetComp _ _ _ _ => false
  | .DictComp _ _ _ _ _ => false
  | _ => true
def notTup : Expr → Bool
  | .Tuple _ _ _ => false
  | _ => true
def notSet : Expr → Bool
  | .Set _ _ _ => false
  | _ => true
/-- an assignment to a name that is not exchanged -/
def plainAsg (M : MC) (x : Str) (p : Pos) (v : Expr) : Bool := notComp v || !isLoc M.sc x
def lcAsg (M : MC) (x : Str) (p : Pos) (v : Expr) : Bool := match v with
  | .ListComp _ _ scope pos => isLoc M.sc x && (p.line == pos.line) && !(scope.names.any fun (n, k) => n == x && (k == .local || k == .cell))
  | _ => false
def tyNames : List String := ["int", "bool", "str", "tuple", "list"]
def isSub (is js : List Nat) : Bool := is.all fun i => js.contains i
def asgB (M : MC) (v : Expr) : I → Expr → Bool
  | .tN i, .Name x p => stOk M i x && M.is.contains i && (plainAsg M x p v || lcAsg M x p v)
  | .tT ts, .Tuple _ _ _ => notComp v && notTup v && isSub (slots (.tT ts)) M.is
  | _, _ => false
def restB (o : BoolOp) (y : Expr) (r : List Expr) (pos : Pos) : Expr := match r with
  | [] => y
  | _ => .BoolOp o (y :: r) pos
def k_var (nd : Nd) (k : (Str) → Bool) : Bool := match nd with
  | .E (.Name x _) => k x
  | _ => false
theorem k_var_inv {nd : Nd} {k : (Str) → Bool} (h : k_var nd k = true) : ∃ (x : Str) (p0 : Pos), nd = .E (.Name x p0) ∧ k x = true := by
  unfold k_var at h
  split at h
  · exact ⟨_, _, rfl, h⟩
  · cases h
def k_mov (nd : Nd) (k : (Str) → Bool) : Bool := match nd with
  | .E (.Name x _) => k x
  | _ => false
theorem k_mov_inv {nd : Nd} {k : (Str) → Bool} (h : k_mov nd k = true) : ∃ (x : Str) (p0 : Pos), nd = .E (.Name x p0) ∧ k x = true := by
  unfold k_mov at h
  split at h
  · exact ⟨_, _, rfl, h⟩
  · cases h
def k_cN (nd : Nd) (k : Bool) : Bool := match nd with
  | .E (.Constant .none _ _) => k
  | _ => false
theorem k_cN_inv {nd : Nd} {k : Bool} (h : k_cN nd k = true) : ∃ (k0 : Nat) (p0 : Pos), nd = .E (.Constant .none k0 p0) ∧ k  = true := by
  unfold k_cN at h
  split at h
  · exact ⟨_, _, rfl, h⟩
  · cases h
def k_cB (nd : Nd) (k : (Bool) → Bool) : Bool := match nd with
  | .E (.Constant (.bool c) _ _) => k c
  | _ => false
theorem k_cB_inv {nd : Nd} {k : (Bool) → Bool} (h : k_cB nd k = true) : ∃ (c : Bool) (k0 : Nat) (p0 : Pos), nd = .E (.Constant (.bool c) k0 p0) ∧ k c = true := by
  unfold k_cB at h
  split at h
  · exact ⟨_, _, _, rfl, h⟩
  · cases h
def k_cI (nd : Nd) (k : (Int) → Bool) : Bool := match nd with
  | .E (.Constant (.int j) _ _) => k j
  | _ => false
theorem k_cI_inv {nd : Nd} {k : (Int) → Bool} (h : k_cI nd k = true) : ∃ (j : Int) (k0 : Nat) (p0 : Pos), nd = .E (.Constant (.int j) k0 p0) ∧ k j = true := by
  unfold k_cI at h
  split at h
  · exact ⟨_, _, _, rfl, h⟩
  · cases h
def k_cS (nd : Nd) (k : (Str) → Bool) : Bool := match nd with
  | .E (.Constant (.str t) _ _) => k t
  | _ => false
theorem k_cS_inv {nd : Nd} {k : (Str) → Bool} (h : k_cS nd k = true) : ∃ (t : Str) (k0 : Nat) (p0 : Pos), nd = .E (.Constant (.str t) k0 p0) ∧ k t = true := by
  unfold k_cS at h
  split at h
  · exact ⟨_, _, _, rfl, h⟩
  · cases h
def k_bty (nd : Nd) (k : (Str) → Bool) : Bool := match nd with
  | .E (.Name x _) => k x
  | _ => false
theorem k_bty_inv {nd : Nd} {k : (Str) → Bool} (h : k_bty nd k = true) : ∃ (x : Str) (p0 : Pos), nd = .E (.Name x p0) ∧ k x = true := by
  unfold k_bty at h
  split at h
  · exact ⟨_, _, rfl, h⟩
  · cases h
def k_glo (nd : Nd) (k : (Str) → Bool) : Bool := match nd with
  | .E (.Name x _) => k x
  | _ => false
theorem k_glo_inv {nd : Nd} {k : (Str) → Bool} (h : k_glo nd k = true) : ∃ (x : Str) (p0 : Pos), nd = .E (.Name x p0) ∧ k x = true := by
  unfold k_glo at h
  split at h
  · exact ⟨_, _, rfl, h⟩
  · cases h
def k_nilE (nd : Nd) (k : Bool) : Bool := match nd with
  | .A [] => k
  | _ => false
theorem k_nilE_inv {nd : Nd} {k : Bool} (h : k_nilE nd k = true) : nd = .A [] ∧ k  = true := by
  unfold k_nilE at h
  split at h
  · exact ⟨rfl, h⟩
  · cases h
def k_argN (nd : Nd) (k : (Str) → (List Expr) → Bool) : Bool := match nd with
  | .A (.Name x _ :: r) => k x r
  | _ => false
theorem k_argN_inv {nd : Nd} {k : (Str) → (List Expr) → Bool} (h : k_argN nd k = true) : ∃ (x : Str) (p0 : Pos) (r : List Expr), nd = .A (.Name x p0 :: r) ∧ k x r = true := by
  unfold k_argN at h
  split at h
  · exact ⟨_, _, _, rfl, h⟩
  · cases h
def k_consE (nd : Nd) (k : (Expr) → (List Expr) → Bool) : Bool := match nd with
  | .A (e :: r) => k e r
  | _ => false
theorem k_consE_inv {nd : Nd} {k : (Expr) → (List Expr) → Bool} (h : k_consE nd k = true) : ∃ (e : Expr) (r : List Expr), nd = .A (e :: r) ∧ k e r = true := by
  unfold k_consE at h
  split at h
  · exact ⟨_, _, rfl, h⟩
  · cases h
def k_tupE (nd : Nd) (k : (List Expr) → Bool) : Bool := match nd with
  | .E (.Tuple r _ _) => k r
  | _ => false
theorem k_tupE_inv {nd : Nd} {k : (List Expr) → Bool} (h : k_tupE nd k = true) : ∃ (r : List Expr) (k0 : Nat) (p0 : Pos), nd = .E (.Tuple r k0 p0) ∧ k r = true := by
  unfold k_tupE at h
  split at h
  · exact ⟨_, _, _, rfl, h⟩
  · cases h
def k_lstE (nd : Nd) (k : (List Expr) → Bool) : Bool := match nd with
  | .E (.List r _) => k r
  | _ => false
theorem k_lstE_inv {nd : Nd} {k : (List Expr) → Bool} (h : k_lstE nd k = true) : ∃ (r : List Expr) (p0 : Pos), nd = .E (.List r p0) ∧ k r = true := by
  unfold k_lstE at h
  split at h
  · exact ⟨_, _, rfl, h⟩
  · cases h
def k_bop (nd : Nd) (k : (Expr) → (Operator) → (Expr) → Bool) : Bool := match nd with
  | .E (.BinOp a o b _) => k a o b
  | _ => false
theorem k_bop_inv {nd : Nd} {k : (Expr) → (Operator) → (Expr) → Bool} (h : k_bop nd k = true) : ∃ (a : Expr) (o : Operator) (b : Expr) (p0 : Pos), nd = .E (.BinOp a o b p0) ∧ k a o b = true := by
  unfold k_bop at h
  split at h
  · exact ⟨_, _, _, _, rfl, h⟩
  · cases h
def k_cop (nd : Nd) (k : (Expr) → (CmpOp) → (Expr) → Bool) : Bool := match nd with
  | .E (.Compare a [o] [b] _) => k a o b
  | _ => false
theorem k_cop_inv {nd : Nd} {k : (Expr) → (CmpOp) → (Expr) → Bool} (h : k_cop nd k = true) : ∃ (a : Expr) (o : CmpOp) (b : Expr) (p0 : Pos), nd = .E (.Compare a [o] [b] p0) ∧ k a o b = true := by
  unfold k_cop at h
  split at h
  · exact ⟨_, _, _, _, rfl, h⟩
  · cases h
def k_uop (nd : Nd) (k : (UnaryOp) → (Expr) → Bool) : Bool := match nd with
  | .E (.UnaryOp o a _) => k o a
  | _ => false
theorem k_uop_inv {nd : Nd} {k : (UnaryOp) → (Expr) → Bool} (h : k_uop nd k = true) : ∃ (o : UnaryOp) (a : Expr) (p0 : Pos), nd = .E (.UnaryOp o a p0) ∧ k o a = true := by
  unfold k_uop at h
  split at h
  · exact ⟨_, _, _, rfl, h⟩
  · cases h
def k_ixe (nd : Nd) (k : (Expr) → (Expr) → Bool) : Bool := match nd with
  | .E (.Subscript a b _) => k a b
  | _ => false
theorem k_ixe_inv {nd : Nd} {k : (Expr) → (Expr) → Bool} (h : k_ixe nd k = true) : ∃ (a : Expr) (b : Expr) (p0 : Pos), nd = .E (.Subscript a b p0) ∧ k a b = true := by
  unfold k_ixe at h
  split at h
  · exact ⟨_, _, _, rfl, h⟩
  · cases h
def k_sle (nd : Nd) (k : (Expr) → (Option Expr) → (Option Expr) → Bool) : Bool := match nd with
  | .E (.Subscript a (.Slice l u none _) _) => k a l u
  | _ => false
theorem k_sle_inv {nd : Nd} {k : (Expr) → (Option Expr) → (Option Expr) → Bool} (h : k_sle nd k = true) : ∃ (a : Expr) (l : Option Expr) (u : Option Expr) (p1 : Pos) (p0 : Pos), nd = .E (.Subscript a (.Slice l u none p1) p0) ∧ k a l u = true := by
  unfold k_sle at h
  split at h
  · exact ⟨_, _, _, _, _, rfl, h⟩
  · cases h
def k_blt (nd : Nd) (k : (Str) → (Expr) → (List Expr) → Bool) : Bool := match nd with
  | .E (.Call (.Name x _) (e :: r) [] _) => k x e r
  | _ => false
theorem k_blt_inv {nd : Nd} {k : (Str) → (Expr) → (List Expr) → Bool} (h : k_blt nd k = true) : ∃ (x : Str) (p1 : Pos) (e : Expr) (r : List Expr) (p0 : Pos), nd = .E (.Call (.Name x p1) (e :: r) [] p0) ∧ k x e r = true := by
  unfold k_blt at h
  split at h
  · exact ⟨_, _, _, _, _, rfl, h⟩
  · cases h
def k_sos (nd : Nd) (k : (Str) → (Str) → (Expr) → Bool) : Bool := match nd with
  | .E (.Call (.Name x _) [.Call (.Name m _) [e] [] _] [] _) => k x m e
  | _ => false
theorem k_sos_inv {nd : Nd} {k : (Str) → (Str) → (Expr) → Bool} (h : k_sos nd k = true) : ∃ (x : Str) (p1 : Pos) (m : Str) (p2 : Pos) (e : Expr) (p3 : Pos) (p0 : Pos), nd = .E (.Call (.Name x p1) [.Call (.Name m p2) [e] [] p3] [] p0) ∧ k x m e = true := by
  unfold k_sos at h
  split at h
  · exact ⟨_, _, _, _, _, _, _, rfl, h⟩
  · cases h
def k_call (nd : Nd) (k : (Str) → (Expr) → (List Expr) → Bool) : Bool := match nd with
  | .E (.Call (.Name x _) (e :: r) [] _) => k x e r
  | _ => false
theorem k_call_inv {nd : Nd} {k : (Str) → (Expr) → (List Expr) → Bool} (h : k_call nd k = true) : ∃ (x : Str) (p1 : Pos) (e : Expr) (r : List Expr) (p0 : Pos), nd = .E (.Call (.Name x p1) (e :: r) [] p0) ∧ k x e r = true := by
  unfold k_call at h
  split at h
  · exact ⟨_, _, _, _, _, rfl, h⟩
  · cases h
def k_tn (nd : Nd) (k : (Str) → Bool) : Bool := match nd with
  | .T (.Name x _) => k x
  | _ => false
theorem k_tn_inv {nd : Nd} {k : (Str) → Bool} (h : k_tn nd k = true) : ∃ (x : Str) (p0 : Pos), nd = .T (.Name x p0) ∧ k x = true := by
  unfold k_tn at h
  split at h
  · exact ⟨_, _, rfl, h⟩
  · cases h
def k_tv (nd : Nd) (k : (Expr) → Bool) : Bool := match nd with
  | .T e => k e
  | _ => false
theorem k_tv_inv {nd : Nd} {k : (Expr) → Bool} (h : k_tv nd k = true) : ∃ (e : Expr), nd = .T e ∧ k e = true := by
  unfold k_tv at h
  split at h
  · exact ⟨_, rfl, h⟩
  · cases h
def k_tcp (nd : Nd) (k : (Expr) → (CmpOp) → (Expr) → Bool) : Bool := match nd with
  | .T (.Compare a [o] [b] _) => k a o b
  | _ => false
theorem k_tcp_inv {nd : Nd} {k : (Expr) → (CmpOp) → (Expr) → Bool} (h : k_tcp nd k = true) : ∃ (a : Expr) (o : CmpOp) (b : Expr) (p0 : Pos), nd = .T (.Compare a [o] [b] p0) ∧ k a o b = true := by
  unfold k_tcp at h
  split at h
  · exact ⟨_, _, _, _, rfl, h⟩
  · cases h
def k_tch (nd : Nd) (k : (Expr) → (CmpOp) → (CmpOp) → (Expr) → (Expr) → Bool) : Bool := match nd with
  | .T (.Compare a' [p, q] [b', c'] _) => k a' p q b' c'
  | _ => false
theorem k_tch_inv {nd : Nd} {k : (Expr) → (CmpOp) → (CmpOp) → (Expr) → (Expr) → Bool} (h : k_tch nd k = true) : ∃ (a' : Expr) (p : CmpOp) (q : CmpOp) (b' : Expr) (c' : Expr) (p0 : Pos), nd = .T (.Compare a' [p, q] [b', c'] p0) ∧ k a' p q b' c' = true := by
  unfold k_tch at h
  split at h
  · exact ⟨_, _, _, _, _, _, rfl, h⟩
  · cases h
def k_tnot (nd : Nd) (k : (Expr) → Bool) : Bool := match nd with
  | .T (.UnaryOp .Not a _) => k a
  | _ => false
theorem k_tnot_inv {nd : Nd} {k : (Expr) → Bool} (h : k_tnot nd k = true) : ∃ (a : Expr) (p0 : Pos), nd = .T (.UnaryOp .Not a p0) ∧ k a = true := by
  unfold k_tnot at h
  split at h
  · exact ⟨_, _, rfl, h⟩
  · cases h
def k_tand (nd : Nd) (k : (Expr) → (Expr) → (List Expr) → (Pos) → Bool) : Bool := match nd with
  | .T (.BoolOp .And (x :: y :: r) pos) => k x y r pos
  | _ => false
theorem k_tand_inv {nd : Nd} {k : (Expr) → (Expr) → (List Expr) → (Pos) → Bool} (h : k_tand nd k = true) : ∃ (x : Expr) (y : Expr) (r : List Expr) (pos : Pos), nd = .T (.BoolOp .And (x :: y :: r) pos) ∧ k x y r pos = true := by
  unfold k_tand at h
  split at h
  · exact ⟨_, _, _, _, rfl, h⟩
  · cases h
def k_tor (nd : Nd) (k : (Expr) → (Expr) → (List Expr) → (Pos) → Bool) : Bool := match nd with
  | .T (.BoolOp .Or (x :: y :: r) pos) => k x y r pos
  | _ => false
theorem k_tor_inv {nd : Nd} {k : (Expr) → (Expr) → (List Expr) → (Pos) → Bool} (h : k_tor nd k = true) : ∃ (x : Expr) (y : Expr) (r : List Expr) (pos : Pos), nd = .T (.BoolOp .Or (x :: y :: r) pos) ∧ k x y r pos = true := by
  unfold k_tor at h
  split at h
  · exact ⟨_, _, _, _, rfl, h⟩
  · cases h
def k_vand (nd : Nd) (k : (Expr) → (Expr) → (List Expr) → (Pos) → Bool) : Bool := match nd with
  | .E (.BoolOp .And (x :: y :: r) pos) => k x y r pos
  | _ => false
theorem k_vand_inv {nd : Nd} {k : (Expr) → (Expr) → (List Expr) → (Pos) → Bool} (h : k_vand nd k = true) : ∃ (x : Expr) (y : Expr) (r : List Expr) (pos : Pos), nd = .E (.BoolOp .And (x :: y :: r) pos) ∧ k x y r pos = true := by
  unfold k_vand at h
  split at h
  · exact ⟨_, _, _, _, rfl, h⟩
  · cases h
def k_vor (nd : Nd) (k : (Expr) → (Expr) → (List Expr) → (Pos) → Bool) : Bool := match nd with
  | .E (.BoolOp .Or (x :: y :: r) pos) => k x y r pos
  | _ => false
theorem k_vor_inv {nd : Nd} {k : (Expr) → (Expr) → (List Expr) → (Pos) → Bool} (h : k_vor nd k = true) : ∃ (x : Expr) (y : Expr) (r : List Expr) (pos : Pos), nd = .E (.BoolOp .Or (x :: y :: r) pos) ∧ k x y r pos = true := by
  unfold k_vor at h
  split at h
  · exact ⟨_, _, _, _, rfl, h⟩
  · cases h
def k_vnot (nd : Nd) (k : (Expr) → Bool) : Bool := match nd with
  | .E (.UnaryOp .Not a _) => k a
  | _ => false
theorem k_vnot_inv {nd : Nd} {k : (Expr) → Bool} (h : k_vnot nd k = true) : ∃ (a : Expr) (p0 : Pos), nd = .E (.UnaryOp .Not a p0) ∧ k a = true := by
  unfold k_vnot at h
  split at h
  · exact ⟨_, _, rfl, h⟩
  · cases h
def k_ife (nd : Nd) (k : (Expr) → (Expr) → (Expr) → Bool) : Bool := match nd with
  | .E (.IfExp c' a' b' _) => k c' a' b'
  | _ => false
theorem k_ife_inv {nd : Nd} {k : (Expr) → (Expr) → (Expr) → Bool} (h : k_ife nd k = true) : ∃ (c' : Expr) (a' : Expr) (b' : Expr) (p0 : Pos), nd = .E (.IfExp c' a' b' p0) ∧ k c' a' b' = true := by
  unfold k_ife at h
  split at h
  · exact ⟨_, _, _, _, rfl, h⟩
  · cases h
def k_chn (nd : Nd) (k : (Expr) → (CmpOp) → (CmpOp) → (Expr) → (Expr) → Bool) : Bool := match nd with
  | .E (.Compare a' [p, q] [b', c'] _) => k a' p q b' c'
  | _ => false
theorem k_chn_inv {nd : Nd} {k : (Expr) → (CmpOp) → (CmpOp) → (Expr) → (Expr) → Bool} (h : k_chn nd k = true) : ∃ (a' : Expr) (p : CmpOp) (q : CmpOp) (b' : Expr) (c' : Expr) (p0 : Pos), nd = .E (.Compare a' [p, q] [b', c'] p0) ∧ k a' p q b' c' = true := by
  unfold k_chn at h
  split at h
  · exact ⟨_, _, _, _, _, _, rfl, h⟩
  · cases h
def k_itV (nd : Nd) (k : (Expr) → (Expr) → Bool) : Bool := match nd with
  | .It tg e => k tg e
  | _ => false
theorem k_itV_inv {nd : Nd} {k : (Expr) → (Expr) → Bool} (h : k_itV nd k = true) : ∃ (tg : Expr) (e : Expr), nd = .It tg e ∧ k tg e = true := by
  unfold k_itV at h
  split at h
  · exact ⟨_, _, rfl, h⟩
  · cases h
def k_itR (nd : Nd) (k : (Expr) → (Str) → (Expr) → Bool) : Bool := match nd with
  | .It tg (.Call (.Name x _) [a] [] _) => k tg x a
  | _ => false
theorem k_itR_inv {nd : Nd} {k : (Expr) → (Str) → (Expr) → Bool} (h : k_itR nd k = true) : ∃ (tg : Expr) (x : Str) (p1 : Pos) (a : Expr) (p0 : Pos), nd = .It tg (.Call (.Name x p1) [a] [] p0) ∧ k tg x a = true := by
  unfold k_itR at h
  split at h
  · exact ⟨_, _, _, _, _, rfl, h⟩
  · cases h
def k_itR2 (nd : Nd) (k : (Expr) → (Str) → (Expr) → (Expr) → Bool) : Bool := match nd with
  | .It tg (.Call (.Name x _) [a, b] [] _) => k tg x a b
  | _ => false
theorem k_itR2_inv {nd : Nd} {k : (Expr) → (Str) → (Expr) → (Expr) → Bool} (h : k_itR2 nd k = true) : ∃ (tg : Expr) (x : Str) (p1 : Pos) (a : Expr) (b : Expr) (p0 : Pos), nd = .It tg (.Call (.Name x p1) [a, b] [] p0) ∧ k tg x a b = true := by
  unfold k_itR2 at h
  split at h
  · exact ⟨_, _, _, _, _, _, rfl, h⟩
  · cases h
def k_tN (nd : Nd) (k : (Str) → Bool) : Bool := match nd with
  | .G (.Name x _) => k x
  | _ => false
theorem k_tN_inv {nd : Nd} {k : (Str) → Bool} (h : k_tN nd k = true) : ∃ (x : Str) (p0 : Pos), nd = .G (.Name x p0) ∧ k x = true := by
  unfold k_tN at h
  split at h
  · exact ⟨_, _, rfl, h⟩
  · cases h
def k_tT (nd : Nd) (k : (List Expr) → Bool) : Bool := match nd with
  | .G (.Tuple r _ _) => k r
  | _ => false
theorem k_tT_inv {nd : Nd} {k : (List Expr) → Bool} (h : k_tT nd k = true) : ∃ (r : List Expr) (k0 : Nat) (p0 : Pos), nd = .G (.Tuple r k0 p0) ∧ k r = true := by
  unfold k_tT at h
  split at h
  · exact ⟨_, _, _, rfl, h⟩
  · cases h
def k_tNil (nd : Nd) (k : Bool) : Bool := match nd with
  | .Gs [] => k
  | _ => false
theorem k_tNil_inv {nd : Nd} {k : Bool} (h : k_tNil nd k = true) : nd = .Gs [] ∧ k  = true := by
  unfold k_tNil at h
  split at h
  · exact ⟨rfl, h⟩
  · cases h
def k_tCons (nd : Nd) (k : (Expr) → (List Expr) → Bool) : Bool := match nd with
  | .Gs (e :: r) => k e r
  | _ => false
theorem k_tCons_inv {nd : Nd} {k : (Expr) → (List Expr) → Bool} (h : k_tCons nd k = true) : ∃ (e : Expr) (r : List Expr), nd = .Gs (e :: r) ∧ k e r = true := by
  unfold k_tCons at h
  split at h
  · exact ⟨_, _, rfl, h⟩
  · cases h
def k_ifN (nd : Nd) (k : Bool) : Bool := match nd with
  | .Ifs [] => k
  | _ => false
theorem k_ifN_inv {nd : Nd} {k : Bool} (h : k_ifN nd k = true) : nd = .Ifs [] ∧ k  = true := by
  unfold k_ifN at h
  split at h
  · exact ⟨rfl, h⟩
  · cases h
def k_ifC (nd : Nd) (k : (Expr) → Bool) : Bool := match nd with
  | .Ifs [e] => k e
  | _ => false
theorem k_ifC_inv {nd : Nd} {k : (Expr) → Bool} (h : k_ifC nd k = true) : ∃ (e : Expr), nd = .Ifs [e] ∧ k e = true := by
  unfold k_ifC at h
  split at h
  · exact ⟨_, rfl, h⟩
  · cases h
def k_lc (nd : Nd) (k : (Expr) → (Expr) → (Expr) → (List Expr) → (Int) → (Scope) → Bool) : Bool := match nd with
  | .E (.ListComp elt [⟨tg', it', ifs', kk⟩] scope _) => k elt tg' it' ifs' kk scope
  | _ => false
theorem k_lc_inv {nd : Nd} {k : (Expr) → (Expr) → (Expr) → (List Expr) → (Int) → (Scope) → Bool} (h : k_lc nd k = true) : ∃ (elt : Expr) (tg' : Expr) (it' : Expr) (ifs' : List Expr) (kk : Int) (scope : Scope) (p0 : Pos), nd = .E (.ListComp elt [⟨tg', it', ifs', kk⟩] scope p0) ∧ k elt tg' it' ifs' kk scope = true := by
  unfold k_lc at h
  split at h
  · exact ⟨_, _, _, _, _, _, _, rfl, h⟩
  · cases h
def k_lc2 (nd : Nd) (k : (Expr) → (Expr) → (Expr) → (List Expr) → (Int) → (Expr) → (Expr) → (List Expr) → (Int) → (Scope) → Bool) : Bool := match nd with
  | .E (.ListComp elt [⟨tg', it', ifs', kk⟩, ⟨tg2, it2, ifs2, kk2⟩] scope _) => k elt tg' it' ifs' kk tg2 it2 ifs2 kk2 scope
  | _ => false
theorem k_lc2_inv {nd : Nd} {k : (Expr) → (Expr) → (Expr) → (List Expr) → (Int) → (Expr) → (Expr) → (List Expr) → (Int) → (Scope) → Bool} (h : k_lc2 nd k = true) : ∃ (elt : Expr) (tg' : Expr) (it' : Expr) (ifs' : List Expr) (kk : Int) (tg2 : Expr) (it2 : Expr) (ifs2 : List Expr) (kk2 : Int) (scope : Scope) (p0 : Pos), nd = .E (.ListComp elt [⟨tg', it', ifs', kk⟩, ⟨tg2, it2, ifs2, kk2⟩] scope p0) ∧ k elt tg' it' ifs' kk tg2 it2 ifs2 kk2 scope = true := by
  unfold k_lc2 at h
  split at h
  · exact ⟨_, _, _, _, _, _, _, _, _, _, _, rfl, h⟩
  · cases h
def k_lcO (nd : Nd) (k : (Expr) → (Expr) → (Str) → (List Expr) → (Int) → (Scope) → Bool) : Bool := match nd with
  | .E (.ListComp elt [⟨tg', (.Name x _), ifs', kk⟩] scope _) => k elt tg' x ifs' kk scope
  | _ => false
theorem k_lcO_inv {nd : Nd} {k : (Expr) → (Expr) → (Str) → (List Expr) → (Int) → (Scope) → Bool} (h : k_lcO nd k = true) : ∃ (elt : Expr) (tg' : Expr) (x : Str) (p1 : Pos) (ifs' : List Expr) (kk : Int) (scope : Scope) (p0 : Pos), nd = .E (.ListComp elt [⟨tg', (.Name x p1), ifs', kk⟩] scope p0) ∧ k elt tg' x ifs' kk scope = true := by
  unfold k_lcO at h
  split at h
  · exact ⟨_, _, _, _, _, _, _, _, rfl, h⟩
  · cases h
def k_forO (nd : Nd) (k : (Expr) → (Str) → (List Stmt) → Bool) : Bool := match nd with
  | .S (.For tg (.Name x _) b1 [] _) => k tg x b1
  | _ => false
theorem k_forO_inv {nd : Nd} {k : (Expr) → (Str) → (List Stmt) → Bool} (h : k_forO nd k = true) : ∃ (tg : Expr) (x : Str) (p1 : Pos) (b1 : List Stmt) (p0 : Pos), nd = .S (.For tg (.Name x p1) b1 [] p0) ∧ k tg x b1 = true := by
  unfold k_forO at h
  split at h
  · exact ⟨_, _, _, _, _, rfl, h⟩
  · cases h
def k_skip (nd : Nd) (k : Bool) : Bool := match nd with
  | .Ss [] => k
  | _ => false
theorem k_skip_inv {nd : Nd} {k : Bool} (h : k_skip nd k = true) : nd = .Ss [] ∧ k  = true := by
  unfold k_skip at h
  split at h
  · exact ⟨rfl, h⟩
  · cases h
def k_seq (nd : Nd) (k : (Stmt) → (List Stmt) → Bool) : Bool := match nd with
  | .Ss (s :: r) => k s r
  | _ => false
theorem k_seq_inv {nd : Nd} {k : (Stmt) → (List Stmt) → Bool} (h : k_seq nd k = true) : ∃ (s : Stmt) (r : List Stmt), nd = .Ss (s :: r) ∧ k s r = true := by
  unfold k_seq at h
  split at h
  · exact ⟨_, _, rfl, h⟩
  · cases h
def k_exs (nd : Nd) (k : (Expr) → Bool) : Bool := match nd with
  | .S (.Expr v _) => k v
  | _ => false
theorem k_exs_inv {nd : Nd} {k : (Expr) → Bool} (h : k_exs nd k = true) : ∃ (v : Expr) (p0 : Pos), nd = .S (.Expr v p0) ∧ k v = true := by
  unfold k_exs at h
  split at h
  · exact ⟨_, _, rfl, h⟩
  · cases h
def k_asg (nd : Nd) (k : (Expr) → (Expr) → Bool) : Bool := match nd with
  | .S (.Assign [tg] v _) => k tg v
  | _ => false
theorem k_asg_inv {nd : Nd} {k : (Expr) → (Expr) → Bool} (h : k_asg nd k = true) : ∃ (tg : Expr) (v : Expr) (p0 : Pos), nd = .S (.Assign [tg] v p0) ∧ k tg v = true := by
  unfold k_asg at h
  split at h
  · exact ⟨_, _, _, rfl, h⟩
  · cases h
def k_aug (nd : Nd) (k : (Str) → (Operator) → (Expr) → Bool) : Bool := match nd with
  | .S (.AugAssign (.Name x _) o v _) => k x o v
  | _ => false
theorem k_aug_inv {nd : Nd} {k : (Str) → (Operator) → (Expr) → Bool} (h : k_aug nd k = true) : ∃ (x : Str) (p1 : Pos) (o : Operator) (v : Expr) (p0 : Pos), nd = .S (.AugAssign (.Name x p1) o v p0) ∧ k x o v = true := by
  unfold k_aug at h
  split at h
  · exact ⟨_, _, _, _, _, rfl, h⟩
  · cases h
def k_app (nd : Nd) (k : (Str) → (Str) → (Pos) → (Expr) → (Pos) → Bool) : Bool := match nd with
  | .S (.Expr (.Call (.Attribute (.Name x _) m ap) [v] [] cp) _) => k x m ap v cp
  | _ => false
theorem k_app_inv {nd : Nd} {k : (Str) → (Str) → (Pos) → (Expr) → (Pos) → Bool} (h : k_app nd k = true) : ∃ (x : Str) (p3 : Pos) (m : Str) (ap : Pos) (v : Expr) (cp : Pos) (p0 : Pos), nd = .S (.Expr (.Call (.Attribute (.Name x p3) m ap) [v] [] cp) p0) ∧ k x m ap v cp = true := by
  unfold k_app at h
  split at h
  · exact ⟨_, _, _, _, _, _, _, rfl, h⟩
  · cases h
def k_sti (nd : Nd) (k : (Str) → (Expr) → (Expr) → Bool) : Bool := match nd with
  | .S (.Assign [.Subscript (.Name x _) k' _] v _) => k x k' v
  | _ => false
theorem k_sti_inv {nd : Nd} {k : (Str) → (Expr) → (Expr) → Bool} (h : k_sti nd k = true) : ∃ (x : Str) (p3 : Pos) (k' : Expr) (p1 : Pos) (v : Expr) (p0 : Pos), nd = .S (.Assign [.Subscript (.Name x p3) k' p1] v p0) ∧ k x k' v = true := by
  unfold k_sti at h
  split at h
  · exact ⟨_, _, _, _, _, _, rfl, h⟩
  · cases h
def k_raiseS (nd : Nd) (k : (Str) → Bool) : Bool := match nd with
  | .S (.Raise (some (.Call (.Name x _) [] [] _)) none _) => k x
  | _ => false
theorem k_raiseS_inv {nd : Nd} {k : (Str) → Bool} (h : k_raiseS nd k = true) : ∃ (x : Str) (p1 : Pos) (p2 : Pos) (p0 : Pos), nd = .S (.Raise (some (.Call (.Name x p1) [] [] p2)) none p0) ∧ k x = true := by
  unfold k_raiseS at h
  split at h
  · exact ⟨_, _, _, _, rfl, h⟩
  · cases h
def k_tryA (nd : Nd) (k : (List Stmt) → (Str) → (Str) → (Str) → (Str) → Bool) : Bool := match nd with
  | .S (.Try b1 [.ExceptHandler (some (.Name x _)) (some m) [.Return (some (.Call (.Name y _) [.Name z _] [] _)) _] _] [] [] _) => k b1 x m y z
  | _ => false
theorem k_tryA_inv {nd : Nd} {k : (List Stmt) → (Str) → (Str) → (Str) → (Str) → Bool} (h : k_tryA nd k = true) : ∃ (b1 : List Stmt) (x : Str) (p1 : Pos) (m : Str) (y : Str) (p2 : Pos) (z : Str) (p3 : Pos) (p4 : Pos) (p5 : Pos) (p6 : Pos) (p0 : Pos), nd = .S (.Try b1 [.ExceptHandler (some (.Name x p1)) (some m) [.Return (some (.Call (.Name y p2) [.Name z p3] [] p4)) p5] p6] [] [] p0) ∧ k b1 x m y z = true := by
  unfold k_tryA at h
  split at h
  · exact ⟨_, _, _, _, _, _, _, _, _, _, _, _, rfl, h⟩
  · cases h
def k_tryT (nd : Nd) (k : (List Stmt) → (Str) → (Str) → (Str) → (Str) → (Str) → Bool) : Bool := match nd with
  | .S (.Try b1 [.ExceptHandler (some (.Name x _)) (some m) [.Return (some (.Tuple [.Constant (.str t) _ _, .Call (.Name y _) [.Name z _] [] _] _ _)) _] _] [] [] _) => k b1 x m t y z
  | _ => false
theorem k_tryT_inv {nd : Nd} {k : (List Stmt) → (Str) → (Str) → (Str) → (Str) → (Str) → Bool} (h : k_tryT nd k = true) : ∃ (b1 : List Stmt) (x : Str) (p1 : Pos) (m : Str) (t : Str) (k0 : Nat) (p7 : Pos) (y : Str) (p2 : Pos) (z : Str) (p3 : Pos) (p4 : Pos) (k1 : Nat) (p8 : Pos) (p5 : Pos) (p6 : Pos) (p0 : Pos), nd = .S (.Try b1 [.ExceptHandler (some (.Name x p1)) (some m) [.Return (some (.Tuple [.Constant (.str t) k0 p7, .Call (.Name y p2) [.Name z p3] [] p4] k1 p8)) p5] p6] [] [] p0) ∧ k b1 x m t y z = true := by
  unfold k_tryT at h
  split at h
  · exact ⟨_, _, _, _, _, _, _, _, _, _, _, _, _, _, _, _, _, rfl, h⟩
  · cases h
def k_tupR (nd : Nd) (k : (Str) → (Str) → (Expr) → Bool) : Bool := match nd with
  | .E (.Call (.Name x _) [.Call (.Name m _) [a] [] _] [] _) => k x m a
  | _ => false
theorem k_tupR_inv {nd : Nd} {k : (Str) → (Str) → (Expr) → Bool} (h : k_tupR nd k = true) : ∃ (x : Str) (p1 : Pos) (m : Str) (p2 : Pos) (a : Expr) (p3 : Pos) (p0 : Pos), nd = .E (.Call (.Name x p1) [.Call (.Name m p2) [a] [] p3] [] p0) ∧ k x m a = true := by
  unfold k_tupR at h
  split at h
  · exact ⟨_, _, _, _, _, _, _, rfl, h⟩
  · cases h
def k_tupR2 (nd : Nd) (k : (Str) → (Str) → (Expr) → (Expr) → Bool) : Bool := match nd with
  | .E (.Call (.Name x _) [.Call (.Name m _) [a, b] [] _] [] _) => k x m a b
  | _ => false
theorem k_tupR2_inv {nd : Nd} {k : (Str) → (Str) → (Expr) → (Expr) → Bool} (h : k_tupR2 nd k = true) : ∃ (x : Str) (p1 : Pos) (m : Str) (p2 : Pos) (a : Expr) (b : Expr) (p3 : Pos) (p0 : Pos), nd = .E (.Call (.Name x p1) [.Call (.Name m p2) [a, b] [] p3] [] p0) ∧ k x m a b = true := by
  unfold k_tupR2 at h
  split at h
  · exact ⟨_, _, _, _, _, _, _, _, rfl, h⟩
  · cases h
def k_lstR (nd : Nd) (k : (Str) → (Str) → (Expr) → Bool) : Bool := match nd with
  | .E (.Call (.Name x _) [.Call (.Name m _) [a] [] _] [] _) => k x m a
  | _ => false
theorem k_lstR_inv {nd : Nd} {k : (Str) → (Str) → (Expr) → Bool} (h : k_lstR nd k = true) : ∃ (x : Str) (p1 : Pos) (m : Str) (p2 : Pos) (a : Expr) (p3 : Pos) (p0 : Pos), nd = .E (.Call (.Name x p1) [.Call (.Name m p2) [a] [] p3] [] p0) ∧ k x m a = true := by
  unfold k_lstR at h
  split at h
  · exact ⟨_, _, _, _, _, _, _, rfl, h⟩
  · cases h
def k_lstR2 (nd : Nd) (k : (Str) → (Str) → (Expr) → (Expr) → Bool) : Bool := match nd with
  | .E (.Call (.Name x _) [.Call (.Name m _) [a, b] [] _] [] _) => k x m a b
  | _ => false
theorem k_lstR2_inv {nd : Nd} {k : (Str) → (Str) → (Expr) → (Expr) → Bool} (h : k_lstR2 nd k = true) : ∃ (x : Str) (p1 : Pos) (m : Str) (p2 : Pos) (a : Expr) (b : Expr) (p3 : Pos) (p0 : Pos), nd = .E (.Call (.Name x p1) [.Call (.Name m p2) [a, b] [] p3] [] p0) ∧ k x m a b = true := by
  unfold k_lstR2 at h
  split at h
  · exact ⟨_, _, _, _, _, _, _, _, rfl, h⟩
  · cases h
def k_ret (nd : Nd) (k : (Expr) → Bool) : Bool := match nd with
  | .S (.Return (some v) _) => k v
  | _ => false
theorem k_ret_inv {nd : Nd} {k : (Expr) → Bool} (h : k_ret nd k = true) : ∃ (v : Expr) (p0 : Pos), nd = .S (.Return (some v) p0) ∧ k v = true := by
  unfold k_ret at h
  split at h
  · exact ⟨_, _, rfl, h⟩
  · cases h
def k_retN (nd : Nd) (k : Bool) : Bool := match nd with
  | .S (.Return none _) => k
  | _ => false
theorem k_retN_inv {nd : Nd} {k : Bool} (h : k_retN nd k = true) : ∃ (p0 : Pos), nd = .S (.Return none p0) ∧ k  = true := by
  unfold k_retN at h
  split at h
  · exact ⟨_, rfl, h⟩
  · cases h
def k_ifS (nd : Nd) (k : (Expr) → (List Stmt) → (List Stmt) → Bool) : Bool := match nd with
  | .S (.If c' a1 b1 _) => k c' a1 b1
  | _ => false
theorem k_ifS_inv {nd : Nd} {k : (Expr) → (List Stmt) → (List Stmt) → Bool} (h : k_ifS nd k = true) : ∃ (c' : Expr) (a1 : List Stmt) (b1 : List Stmt) (p0 : Pos), nd = .S (.If c' a1 b1 p0) ∧ k c' a1 b1 = true := by
  unfold k_ifS at h
  split at h
  · exact ⟨_, _, _, _, rfl, h⟩
  · cases h
def k_forS (nd : Nd) (k : (Expr) → (Expr) → (List Stmt) → Bool) : Bool := match nd with
  | .S (.For tg it' b1 [] _) => k tg it' b1
  | _ => false
theorem k_forS_inv {nd : Nd} {k : (Expr) → (Expr) → (List Stmt) → Bool} (h : k_forS nd k = true) : ∃ (tg : Expr) (it' : Expr) (b1 : List Stmt) (p0 : Pos), nd = .S (.For tg it' b1 [] p0) ∧ k tg it' b1 = true := by
  unfold k_forS at h
  split at h
  · exact ⟨_, _, _, _, rfl, h⟩
  · cases h
def k_whl (nd : Nd) (k : (Expr) → (List Stmt) → Bool) : Bool := match nd with
  | .S (.While c' b1 [] _) => k c' b1
  | _ => false
theorem k_whl_inv {nd : Nd} {k : (Expr) → (List Stmt) → Bool} (h : k_whl nd k = true) : ∃ (c' : Expr) (b1 : List Stmt) (p0 : Pos), nd = .S (.While c' b1 [] p0) ∧ k c' b1 = true := by
  unfold k_whl at h
  split at h
  · exact ⟨_, _, _, rfl, h⟩
  · cases h
def k_brk (nd : Nd) (k : Bool) : Bool := match nd with
  | .S (.Break _) => k
  | _ => false
theorem k_brk_inv {nd : Nd} {k : Bool} (h : k_brk nd k = true) : ∃ (p0 : Pos), nd = .S (.Break p0) ∧ k  = true := by
  unfold k_brk at h
  split at h
  · exact ⟨_, rfl, h⟩
  · cases h
def k_cnt (nd : Nd) (k : Bool) : Bool := match nd with
  | .S (.Continue _) => k
  | _ => false
theorem k_cnt_inv {nd : Nd} {k : Bool} (h : k_cnt nd k = true) : ∃ (p0 : Pos), nd = .S (.Continue p0) ∧ k  = true := by
  unfold k_cnt at h
  split at h
  · exact ⟨_, rfl, h⟩
  · cases h
def k_pas (nd : Nd) (k : Bool) : Bool := match nd with
  | .S (.Pass _) => k
  | _ => false
theorem k_pas_inv {nd : Nd} {k : Bool} (h : k_pas nd k = true) : ∃ (p0 : Pos), nd = .S (.Pass p0) ∧ k  = true := by
  unfold k_pas at h
  split at h
  · exact ⟨_, rfl, h⟩
  · cases h
def mt (g : GT) : I → MC → Nd → Bool
  | .var i, M, nd => k_var nd (fun x => rdOk M i x)
  | .mov i, M, nd => k_mov nd (fun x => rdOk M i x)
  | .cN, _, nd => k_cN nd (true)
  | .cB b0, _, nd => k_cB nd (fun c => decide (b0 = c))
  | .cI i, _, nd => k_cI nd (fun j => decide (i = j))
  | .cS s0, _, nd => k_cS nd (fun t => decide (s0 = t))
  | .bty n0, M, nd => k_bty nd (fun x => glB M.sc x && ndB x && decide (x = Str.ofString n0) && tyNames.contains n0 && g.free.contains x)
  | .glo k, M, nd => k_glo nd (fun x => glB M.sc x && ndB x && decide (g.con.lookup k = some x))
  | .nilE, _, nd => k_nilE nd (true)
  | .argN i es, M, nd => k_argN nd (fun x r => rdOk M i x && mt g es M (.A r))
  | .consE a0 es, M, nd => k_consE nd (fun e r => noStar e && mt g a0 M (.E e) && mt g es M (.A r))
  | .tupE es, M, nd => k_tupE nd (fun r => mt g es M (.A r))
  | .lstE es, M, nd => k_lstE nd (fun r => mt g es M (.A r))
  | .bop op es, M, nd => k_bop nd (fun a o b => decide (op = o) && mt g es M (.A [a, b]))
  | .cop op es, M, nd => k_cop nd (fun a o b => decide (op = o) && !behindInMarks o b && mt g es M (.A [a, b]))
  | .uop op es, M, nd => k_uop nd (fun o a => decide (op = o) && mt g es M (.A [a]))
  | .ixe es, M, nd => k_ixe nd (fun a b => notSlice b && mt g es M (.A [a, b]))
  | .sle lo hi es, M, nd => k_sle nd (fun a l u => decide (lo = l.isSome) && decide (hi = u.isSome) && !(l.isSome && u.isSome) && mt g es M (.A (a :: (l.toList ++ u.toList))))
  | .blt bb es, M, nd => k_blt nd (fun x e r => glB M.sc x && decide (x = bb.name) && g.free.contains x && mt g es M (.A (e :: r)))
  | .sos es, M, nd => k_sos nd (fun x m e => glB M.sc x && glB M.sc m && decide (x = "sorted") && decide (m = "set") && g.free.contains x && g.free.contains m && mt g es M (.A [e]))
  | .call f es, M, nd => k_call nd (fun x e r => glB M.sc x && ndB x && decide (g.fns.lookup f = some (x, (e :: r).length)) && mt g es M (.A (e :: r)))
  | .tn i, M, nd => k_tn nd (fun x => rdOk M i x)
  | .tv a0, M, nd => k_tv nd (fun e => plainT e && mt g a0 M (.E e))
  | .tcp op es, M, nd => k_tcp nd (fun a o b => decide (op = o) && !behindInMarks o b && mt g es M (.A [a, b]))
  | .tch o1 o2 a0 b0 c0, M, nd => k_tch nd (fun a' p q b' c' => decide (o1 = p) && decide (o2 = q) && !lastMarks [p, q] [b', c'] && mt g a0 M (.E a') && mt g b0 M (.E b') && mt g c0 M (.E c'))
  | .tnot t0, M, nd => k_tnot nd (fun a => mt g t0 M (.T a))
  | .tand a0 b0, M, nd => k_tand nd (fun x y r pos => mt g a0 M (.T x) && mt g b0 M (.T (restB .And y r pos)))
  | .tor a0 b0, M, nd => k_tor nd (fun x y r pos => mt g a0 M (.T x) && mt g b0 M (.T (restB .Or y r pos)))
  | .vand a0 b0, M, nd => k_vand nd (fun x y r pos => mt g a0 M (.E x) && mt g b0 M (.E (restB .And y r pos)))
  | .vor a0 b0, M, nd => k_vor nd (fun x y r pos => mt g a0 M (.E x) && mt g b0 M (.E (restB .Or y r pos)))
  | .vnot a0, M, nd => k_vnot nd (fun a => mt g a0 M (.E a))
  | .ife c0 a0 b0, M, nd => k_ife nd (fun c' a' b' => mt g c0 M (.T c') && mt g a0 M (.E a') && mt g b0 M (.E b'))
  | .chn o1 o2 a0 b0 c0, M, nd => k_chn nd (fun a' p q b' c' => decide (o1 = p) && decide (o2 = q) && !lastMarks [p, q] [b', c'] && mt g a0 M (.E a') && mt g b0 M (.E b') && mt g c0 M (.E c'))
  | .itV a0, M, nd => k_itV nd (fun tg e => notSet e && mt g a0 M (.E e))
  | .itR es, M, nd => k_itR nd (fun tg x a => glB M.sc x && decide (x = "range") && g.free.contains x && mt g es M (.A [a]))
  | .itR2 es, M, nd => k_itR2 nd (fun tg x a b => glB M.sc x && decide (x = "range") && g.free.contains x && mt g es M (.A [a, b]))
  | .tN i, M, nd => k_tN nd (fun x => stOk M i x)
  | .tT ts, M, nd => k_tT nd (fun r => mt g ts M (.Gs r))
  | .tNil, _, nd => k_tNil nd (true)
  | .tCons t0 ts, M, nd => k_tCons nd (fun e r => noStar e && mt g t0 M (.G e) && mt g ts M (.Gs r))
  | .ifN, _, nd => k_ifN nd (true)
  | .ifC c0, M, nd => k_ifC nd (fun e => mt g c0 M (.T e))
  | .lc own tg0 it0 ifs0 x0, M, nd => k_lc nd (fun elt tg' it' ifs' kk scope => decide (kk = 0) && notSet it' && mt g it0 M (.It tg' it') && blkC M.N M.sc scope (own.map fun i => (M.N.getD i Str.empty, i)) && isSub (slots tg0) own && mt g tg0 ⟨M.N, relS scope M.sc, some scope, []⟩ (.G tg') && mt g ifs0 ⟨M.N, relS scope M.sc, some scope, []⟩ (.Ifs ifs') && mt g x0 ⟨M.N, relS scope M.sc, some scope, []⟩ (.E elt))
  | .lc2 own own1 tg0 it0 ifs0 tg1 it1 ifs1 x0, M, nd => k_lc2 nd (fun elt tg' it' ifs' kk tg2 it2 ifs2 kk2 scope => decide (kk = 0) && decide (kk2 = 0) && notSet it' && notSet it2 && isSub own1 own && mt g it0 M (.It tg' it') && blkC M.N M.sc scope (own.map fun i => (M.N.getD i Str.empty, i)) && isSub (slots tg0) own && isSub (slots tg1) own1 && mt g tg0 ⟨M.N, relS scope M.sc, some scope, []⟩ (.G tg') && mt g ifs0 ⟨M.N, relS scope M.sc, some scope, []⟩ (.Ifs ifs') && mt g it1 ⟨M.N, relS scope M.sc, some scope, []⟩ (.It tg2 it2) && mt g tg1 ⟨M.N, relS scope M.sc, some scope, []⟩ (.G tg2) && mt g ifs1 ⟨M.N, relS scope M.sc, some scope, []⟩ (.Ifs ifs2) && mt g x0 ⟨M.N, relS scope M.sc, some scope, []⟩ (.E elt))
  | .lcO own i tg0 ifs0 x0, M, nd => k_lcO nd (fun elt tg' x ifs' kk scope => decide (kk = 0) && rdOk M i x && !own.contains i && blkC M.N M.sc scope (own.map fun i => (M.N.getD i Str.empty, i)) && isSub (slots tg0) own && mt g tg0 ⟨M.N, relS scope M.sc, some scope, []⟩ (.G tg') && mt g ifs0 ⟨M.N, relS scope M.sc, some scope, []⟩ (.Ifs ifs') && mt g x0 ⟨M.N, relS scope M.sc, some scope, []⟩ (.E elt))
  | .forO i t0 b0, M, nd => k_forO nd (fun tg x b1 => rdOk M i x && isSub (slots t0) (M.is.filter fun j => !(j == i)) && mt g t0 M (.G tg) && mt g b0 ⟨M.N, M.sc, M.fn, M.is.filter fun j => !(j == i)⟩ (.Ss b1))
  | .skip, _, nd => k_skip nd (true)
  | .seq a0 b0, M, nd => k_seq nd (fun s r => mt g a0 M (.S s) && mt g b0 M (.Ss r))
  | .exs a0, M, nd => k_exs nd (fun v => notComp v && mt g a0 M (.E v))
  | .asg t0 a0, M, nd => k_asg nd (fun tg v => asgB M v t0 tg && mt g t0 M (.G tg) && mt g a0 M (.E v))
  | .aug i op a0, M, nd => k_aug nd (fun x o v => decide (op = o) && stOk M i x && M.is.contains i && mt g a0 M (.E v))
  | .app i a0, M, nd => k_app nd (fun x m ap v cp => decide (m = "append") && rdOk M i x && noStar v && (ap.endLine == cp.line) && mt g a0 M (.E v))
  | .sti i k0 a0, M, nd => k_sti nd (fun x k' v => rdOk M i x && notSlice k' && mt g k0 M (.E k') && mt g a0 M (.E v))
  | .raiseS x0, M, nd => k_raiseS nd (fun x => decide (x0 = x) && glB M.sc x && ndB x && g.exc.contains x)
  | .tryA i x0 b0, M, nd => k_tryA nd (fun b1 x m y z => decide (x0 = x) && decide (z = m) && decide (M.N[i]? = some m) && isLoc M.sc m && ndB m && glB M.sc x && ndB x && glB M.sc y && ndB y && decide (g.tell = some y) && g.par.contains x && M.fn.isNone && mt g b0 M (.Ss b1))
  | .tryT i x0 s0 b0, M, nd => k_tryT nd (fun b1 x m t y z => decide (x0 = x) && decide (z = m) && decide (M.N[i]? = some m) && isLoc M.sc m && ndB m && glB M.sc x && ndB x && glB M.sc y && ndB y && decide (g.tell = some y) && g.par.contains x && M.fn.isNone && decide (s0 = t) && mt g b0 M (.Ss b1))
  | .tupR es, M, nd => k_tupR nd (fun x m a => glB M.sc x && glB M.sc m && decide (x = "tuple") && decide (m = "range") && g.free.contains x && g.free.contains m && mt g es M (.A [a]))
  | .tupR2 es, M, nd => k_tupR2 nd (fun x m a b => glB M.sc x && glB M.sc m && decide (x = "tuple") && decide (m = "range") && g.free.contains x && g.free.contains m && mt g es M (.A [a, b]))
  | .lstR es, M, nd => k_lstR nd (fun x m a => glB M.sc x && glB M.sc m && decide (x = "list") && decide (m = "range") && g.free.contains x && g.free.contains m && mt g es M (.A [a]))
  | .lstR2 es, M, nd => k_lstR2 nd (fun x m a b => glB M.sc x && glB M.sc m && decide (x = "list") && decide (m = "range") && g.free.contains x && g.free.contains m && mt g es M (.A [a, b]))
  | .ret a0, M, nd => k_ret nd (fun v => mt g a0 M (.E v))
  | .retN, _, nd => k_retN nd (true)
  | .ifS c0 a0 b0, M, nd => k_ifS nd (fun c' a1 b1 => mt g c0 M (.T c') && mt g a0 M (.Ss a1) && mt g b0 M (.Ss b1))
  | .forS t0 it0 b0, M, nd => k_forS nd (fun tg it' b1 => notSet it' && isSub (slots t0) M.is && mt g t0 M (.G tg) && mt g it0 M (.It tg it') && mt g b0 M (.Ss b1))
  | .whl c0 b0, M, nd => k_whl nd (fun c' b1 => mt g c0 M (.T c') && mt g b0 M (.Ss b1))
  | .brk, _, nd => k_brk nd (true)
  | .cnt, _, nd => k_cnt nd (true)
  | .pas, _, nd => k_pas nd (true)
  | .mth _ _, _, _ => false
end RF


namespace RF
open PySem PySem.Spec PyProof.Rows L2
/-! ### soundness -/
structure Cok (g : GT) (G : Sig) (call : Nat → List Sl → Res (Sl × List Sl)) (n : Nat) (X : Cx) (M : MC) (W : WX) : Prop where
  N : X.N = M.N
  nd : M.N.Nodup
  sc : X.env.scope = M.sc
  kind : M.sc.kind = .function
  fn : ∀ x, fnB M x = true → X.fn x = true
  calm : X.calm = true
  room : Room n X.A
  guards : X.A.guards = some []
  tk : Takes X W
  po : PassesOwn (model X.prog X.w) X.A X.env X.xe
  con : ∀ (k : Nat) (x : Str), g.con.lookup k = some x → ∃ d u v, G.con.lookup k = some d ∧ X.mg x = some u ∧ RelV v u ∧ ∀ ok H, Rep X.K ok H v d
  free : ∀ x, g.free.contains x = true → X.mg x = none
  fns : ∀ (f : Nat) (x : Str) (np : Nat), g.fns.lookup f = some (x, np) → ∃ fa fd ps, X.mg x = some (.ref fa) ∧ PySem.W.keepIn X.K (.ref fa) = true ∧ Binds X.K fd ps [] ∧ ps.length = np ∧ FnG X.prog X.w X.K X.mg X.base n fa fd ps (spF X.K X.mg ps (call f))
  top : M.fn = none → X.stack = X.env :: X.outer ∧ X.env.frame = some X.env.locals
  exc : ∀ x, g.exc.contains x = true → ∃ C, X.mg x = some (.ref C) ∧ Exc1 X.K C
  try_ : ∀ x y, g.par.contains x = true → g.tell = some y → ∃ (P f : Addr) (fd : FuncData) (tab : Addr → Str → Prop), X.mg x = some (.ref P) ∧ TryOk X.K X.mg G x P tab ∧ CFn X.prog X.w X.K X.mg X.base f fd tab ∧ X.mg y = some (.ref f) ∧ PySem.W.keepIn X.K (.ref f) = true ∧ Binds X.K fd [("e" : Str)] []
/-- a comprehension's parts -/
def Lc1 (X : Cx) (Wn : WN) (G : Sig) (call : Nat → List Sl → Res (Sl × List Sl)) (ie : I) : Expr → Prop
  | .ListComp elt [⟨tg, iter, ifs, k⟩] scope pos => k = 0 ∧ ∃ (own : List (Str × Nat)) (wi : TI) (gt : TG) (tt : TT) (te : TE), PI X tg iter wi ∧ BlkOk X.N X.env.scope scope own ∧
      (∀ (s : Shared) (H : Hp) (C : Addr) (cl : List (Str × Addr)) (fp : List Addr), PG (X.blk s H scope (compEnvC scope cl C X.env) fp) tg gt) ∧ (∀ (s : Shared) (H : Hp) (C : Addr) (cl : List (Str × Addr)) (fp : List Addr), PTs (X.blk s H scope (compEnvC scope cl C X.env) fp) ifs tt) ∧
      (∀ (s : Shared) (H : Hp) (C : Addr) (cl : List (Str × Addr)) (fp : List Addr), PE (X.blk s H scope (compEnvC scope cl C X.env) fp) elt te) ∧ (∀ x, foldedSetIterable iter X.env x = pure x) ∧
      ∀ σ H Q, rE X Wn G call ie σ H Q → tLc wi gt tt te (own.map (·.2)) σ H Q
  | _ => True
/-- a comprehension's store, exchanged -/
def LcOk (X : Cx) (Wn : WN) (G : Sig) (call : Nat → List Sl → Res (Sl × List Sl)) (ie : I) : Expr → Prop
  | .ListComp elt gens scope pos => ∃ te : TE, (∀ (i : Nat) (y : Str) (py spos : Pos), X.N[i]? = some y → X.env.scope.names.lookup y = some .local → swapsWith (.ListComp elt gens scope pos) (some (.Name y py)) spos.line X.env = pure true →
      PS X (.Assign [.Name y py] (.ListComp elt gens scope pos) spos) (tAsg te (gName i))) ∧ ∀ σ H Q, rE X Wn G call ie σ H Q → te σ H Q
  | _ => True
theorem lc_parts {X : Cx} {Wn : WN} {G : Sig} {call : Nat → List Sl → Res (Sl × List Sl)} {ie : I} {elt tg iter : Expr} {ifs : List Expr} {k : Int} {scope : Scope} {pos : Pos} (hc : X.calm = true) (hN : X.N.Nodup) (h : Lc1 X Wn G call ie (.ListComp elt [⟨tg, iter, ifs, k⟩] scope pos)) :
    PE X (.ListComp elt [⟨tg, iter, ifs, k⟩] scope pos) (rE X Wn G call ie) ∧ LcOk X Wn G call ie (.ListComp elt [⟨tg, iter, ifs, k⟩] scope pos) := by
  obtain ⟨hk, ownp, wi, gt, tt, te, p1, p2, p3, p4, p5, p6, p7⟩ := h
  subst hk
  exact ⟨pe_imp (pe_lc hc hN p1 p2 p3 p4 p5 p6) p7, _, fun i y py spos hy hyl hsw => ps_setLc hc hN hy hyl hsw p1 p2 p3 p4 p5 p6, p7⟩
def isBool : Expr → Bool
  | .BoolOp _ _ _ => true
  | _ => false
def Snd (X : Cx) (Wn : WN) (G : Sig) (call : Nat → List Sl → Res (Sl × List Sl)) (is : List Nat) (ie : I) : Nd → Prop
  | .E e => PE X e (rE X Wn G call ie) ∧ LcOk X Wn G call ie e
  | .T e => PT X e (rT X Wn G call ie) ∧ (isBool e = true → PW X e (rT X Wn G call ie))
  | .A es => isRow ie = true ∧ SArgs X es (heads X.K Wn G call ie)
  | .It tg e => PI X tg e (rI X Wn G call ie)
  | .G e => PG X e (tG X.K ie)
  | .Gs es => PGs X es (tGs X.K ie) ∧ (assignEach es X.env).length = wideT ie ∧ (assignEach es X.env).findIdx? (·.1) = none
  | .Ifs es => PTs X es (rT X Wn G call ie)
  | .S s => PS X s (rS X Wn G call is ie)
  | .Ss ss => PSs X ss (rS X Wn G call is ie)
section
variable {X : Cx} {M : MC} {W : WX} {g : GT} {G : Sig} {call : Nat → List Sl → Res (Sl × List Sl)} {n : Nat}
theorem vis_of {sc : Scope} {x : Str} (h : vis sc x = true) : Vis sc x := by
  unfold vis at h
  split at h
  · exact .inl (by assumption)
  · exact .inr (.inl (by assumption))
  · exact .inr (.inr (by assumption))
  · cases h
theorem loc_of {sc : Scope} {x : Str} (h : locB sc x = true) : Loc sc x := by
  unfold locB at h
  split at h
  · exact .inl (by assumption)
  · exact .inr (by assumption)
  · cases h
structure Rd1 (X : Cx) (i : Nat) (x : Str) : Prop where
  hN : X.N[i]? = some x
  v : Vis X.env.scope x
  d : (x == ("__debug__" : Str)) = false
  cd : (x == ("__classdict__" : Str)) = false
theorem nd_of {x : Str} (h : ndB x = true) : (x == ("__debug__" : Str)) = false ∧ (x == ("__classdict__" : Str)) = false := by
  unfold ndB at h
  simpa [Bool.and_eq_true] using h
theorem Cok.rd (C : Cok g G call n X M W) {i : Nat} {x : Str} (h : rdOk M i x = true) : Rd1 X i x := by
  unfold rdOk at h
  rw [Bool.and_eq_true, Bool.and_eq_true] at h
  obtain ⟨d1, d2⟩ := nd_of h.2
  exact ⟨by rw [C.N]; exact of_decide_eq_true h.1.1, by rw [C.sc]; exact vis_of h.1.2, d1, d2⟩
theorem Cok.st (C : Cok g G call n X M W) {i : Nat} {x : Str} (h : stOk M i x = true) : X.N[i]? = some x ∧ Loc X.env.scope x ∧ (X.fn x = true ∨ X.env.scope.names.lookup x = some .local) := by
  unfold stOk at h
  rw [Bool.and_eq_true, Bool.and_eq_true, Bool.or_eq_true] at h
  refine ⟨by rw [C.N]; exact of_decide_eq_true h.1.1, by rw [C.sc]; exact loc_of h.1.2, ?_⟩
  rcases h.2 with q | q
  · exact .inl (C.fn x q)
  · exact .inr (by rw [C.sc]; exact of_decide_eq_true q)
theorem Cok.gl (C : Cok g G call n X M W) {x : Str} (h : glB M.sc x = true) : Gl X x := by
  show X.env.scope.names.lookup x = some .globalImplicit
  rw [C.sc]; exact of_decide_eq_true h
theorem sub_of {is js : List Nat} (h : isSub is js = true) : ∀ i ∈ is, i ∈ js := fun i hi => by
  unfold isSub at h
  have := List.all_eq_true.mp h i hi
  simpa using this
theorem notSet_fold {e : Expr} {env : PySem.Env} (h : notSet e = true) : ∀ x, foldedSetIterable e env x = pure x := fun x => by
  cases e <;> first | rfl | exact nomatch h
theorem swaps_plain {v : Expr} {t : Option Expr} {l : Nat} {env : PySem.Env} (h : notComp v = true) : swapsWith v t l env = pure false := by
  cases v <;> first | rfl | exact nomatch h
theorem swaps_cell {v : Expr} {x : Str} {p : Pos} {l : Nat} {env : PySem.Env} (h : ¬ env.scope.names.lookup x = some .local) : swapsWith v (some (.Name x p)) l env = pure false := by
  have k : (env.kindOf x == some .local) = false := by
    have : env.kindOf x ≠ some .local := h
    exact beq_eq_false_iff_ne.mpr this
  cases v <;> first
    | rfl
    | (unfold swapsWith; simp only [k, Bool.and_false, Bool.false_and])
theorem plain_true {e : Expr} {env : PySem.Env} (h : plainT e = true) : ∀ whole, isTrue e env whole = (do let v ← whole; standAt e.pos; holding [v] (truthy v)) := fun whole => by
  cases e with
  | BoolOp _ _ _ => exact nomatch (show false = true from h)
  | IfExp _ _ _ _ => exact nomatch (show false = true from h)
  | Compare _ _ _ _ => exact nomatch (show false = true from h)
  | UnaryOp o _ _ =>
    cases o with
    | Not => exact nomatch (show false = true from h)
    | _ => rfl
  | _ => rfl
theorem swapped_none {es : List Expr} {k : Nat} {p : Pos} {v : Expr} {env : PySem.Env} (h : notTup v = true) : swappedStores [.Tuple es k p] v env = pure none := by
  cases v with
  | Tuple _ _ _ => exact nomatch (show false = true from h)
  | _ => rfl
theorem star_assign {e : Expr} {es : List Expr} {env : PySem.Env} (h : noStar e = true) : assignEach (e :: es) env = (false, assign e env) :: assignEach es env := by
  cases e <;> first | rfl | exact nomatch h
/-- the context of a comprehension's block -/
theorem Cok.blk (C : Cok g G call n X M W) {scope : Scope} {s : Shared} {H : Hp} {Cc : Addr} {cl : List (Str × Addr)} {fp : List Addr} (hk : scope.kind = .function) :
    Cok g G call n (X.blk s H scope (compEnvC scope cl Cc X.env) fp) ⟨M.N, relS scope M.sc, some scope, []⟩ (fun _ _ _ _ => False) := by
  refine ⟨C.N, C.nd, ?_, hk, fun x h => ?_, C.calm, C.room, C.guards, takes0, PassesOwn.never, C.con, C.free, C.fns, (fun h => nomatch h), C.exc, C.try_⟩
  · show relabel scope X.env = relS scope M.sc
    rw [← C.sc]; rfl
  · have h' : scope.names.lookup x = some .cell := of_decide_eq_true h
    show (scope.names.lookup x == some .cell) = true
    rw [h']; rfl
theorem map_own {N : List Str} : ∀ own : List Nat, (own.map fun i => (N.getD i Str.empty, i)).map (·.2) = own
  | [] => rfl
  | i :: is => by rw [List.map_cons, List.map_cons, map_own is]
theorem blk_kind {N : List Str} {sc scope : Scope} {own : List (Str × Nat)} (h : blkC N sc scope own = true) : scope.kind = .function := by
  have := blkOk_by h
  exact this.kind
abbrev rEw (X : Cx) (W : WX) (G : Sig) (call : Nat → List Sl → Res (Sl × List Sl)) (ie : I) : TE := rE X (wnOf X.mg W) G call ie
def IHT (g : GT) (G : Sig) (call : Nat → List Sl → Res (Sl × List Sl)) (n : Nat) (ie : I) : Prop := ∀ (M : MC) (nd : Nd) (X : Cx) (W : WX), Cok g G call n X M W → mt g ie M nd = true → Snd X (wnOf X.mg W) G call M.is ie nd
theorem sd_var (i : Nat)  : IHT g G call n (.var i) := by
  intro M nd X W C h
  obtain ⟨x, p0, rfl, h⟩ := k_var_inv (k := fun x => rdOk M i x) h
  replace h : (rdOk M i x) = true := h
  have r := C.rd h
  exact ⟨pe_imp (pe_var r.hN r.v r.d r.cd) fun σ H Q ⟨Z, e, E, q⟩ => ew_var E q, trivial⟩
theorem sd_mov (i : Nat)  : IHT g G call n (.mov i) := by
  intro M nd X W C h
  obtain ⟨x, p0, rfl, h⟩ := k_mov_inv (k := fun x => rdOk M i x) h
  replace h : (rdOk M i x) = true := h
  have r := C.rd h
  exact ⟨pe_imp (pe_var r.hN r.v r.d r.cd) fun σ H Q ⟨Z, e, E, q⟩ => ew_mov E q, trivial⟩
theorem sd_cN   : IHT g G call n (.cN ) := by
  intro M nd X W C h
  obtain ⟨k0, p0, rfl, h⟩ := k_cN_inv (k := true) h
  exact ⟨pe_imp pe_non fun σ H Q ⟨Z, e, E, q⟩ => ew_const E .non (by have q' := q; simp only [ev, valOf] at q'; exact q'), trivial⟩
theorem sd_cB (b0 : Bool)  : IHT g G call n (.cB b0) := by
  intro M nd X W C h
  obtain ⟨c, k0, p0, rfl, h⟩ := k_cB_inv (k := fun c => decide (b0 = c)) h
  replace h : (decide (b0 = c)) = true := h
  have e1 := of_decide_eq_true h
  subst e1
  exact ⟨pe_imp pe_bl fun σ H Q ⟨Z, e, E, q⟩ => ew_const E (.bl b0) (by have q' := q; simp only [ev, valOf] at q'; exact q'), trivial⟩
theorem sd_cI (i : Int)  : IHT g G call n (.cI i) := by
  intro M nd X W C h
  obtain ⟨j, k0, p0, rfl, h⟩ := k_cI_inv (k := fun j => decide (i = j)) h
  replace h : (decide (i = j)) = true := h
  have e1 := of_decide_eq_true h
  subst e1
  exact ⟨pe_imp pe_int fun σ H Q ⟨Z, e, E, q⟩ => ew_const E (.int i) (by have q' := q; simp only [ev, valOf] at q'; exact q'), trivial⟩
theorem sd_cS (s0 : Str)  : IHT g G call n (.cS s0) := by
  intro M nd X W C h
  obtain ⟨t, k0, p0, rfl, h⟩ := k_cS_inv (k := fun t => decide (s0 = t)) h
  replace h : (decide (s0 = t)) = true := h
  have e1 := of_decide_eq_true h
  subst e1
  exact ⟨pe_imp pe_str fun σ H Q ⟨Z, e, E, q⟩ => ew_const E (.str s0) (by have q' := q; simp only [ev, valOf] at q'; exact q'), trivial⟩
theorem sd_bty (n0 : String)  : IHT g G call n (.bty n0) := by
  intro M nd X W C h
  obtain ⟨x, p0, rfl, h⟩ := k_bty_inv (k := fun x => glB M.sc x && ndB x && decide (x = Str.ofString n0) && tyNames.contains n0 && g.free.contains x) h
  replace h : (glB M.sc x && ndB x && decide (x = Str.ofString n0) && tyNames.contains n0 && g.free.contains x) = true := h
  simp only [Bool.and_eq_true] at h
  obtain ⟨⟨⟨⟨h1, h2⟩, h3⟩, h4⟩, h5⟩ := h
  have e1 : x = Str.ofString n0 := of_decide_eq_true h3
  subst e1
  have hb : bootBuiltins (Str.ofString n0) = some (.type n0) ∧ Str.ofString n0 ≠ "__name__" := by
    have : n0 ∈ tyNames := by simpa using h4
    simp only [tyNames, List.mem_cons, List.not_mem_nil, or_false] at this
    rcases this with rfl | rfl | rfl | rfl | rfl <;> exact ⟨by decide +kernel, by decide +kernel⟩
  exact ⟨pe_imp (pe_bltn (v := .ty n0) (C.gl h1) (C.free _ h5) hb.1 rfl hb.2 (nd_of h2).1) fun σ H Q ⟨Z, e, E, q⟩ => ew_const E (.ty n0) (by have q' := q; simp only [ev, valOf] at q'; exact q'), trivial⟩
theorem sd_glo (k : Nat)  : IHT g G call n (.glo k) := by
  intro M nd X W C h
  obtain ⟨x, p0, rfl, h⟩ := k_glo_inv (k := fun x => glB M.sc x && ndB x && decide (g.con.lookup k = some x)) h
  replace h : (glB M.sc x && ndB x && decide (g.con.lookup k = some x)) = true := h
  simp only [Bool.and_eq_true] at h
  obtain ⟨⟨h1, h2⟩, h3⟩ := h
  obtain ⟨p, u, v, hp, hm, rv, rep⟩ := C.con k x (of_decide_eq_true h3)
  exact ⟨pe_imp (pe_glob (C.gl h1) hm rv (nd_of h2).1) fun σ H Q ⟨Z, e, E, q⟩ => ew_const E (rep _ _) (by have q' := q; simp only [ev, hp, valOf] at q'; exact q'), trivial⟩
theorem sd_nilE   : IHT g G call n (.nilE ) := by
  intro M nd X W C h
  obtain ⟨rfl, h⟩ := k_nilE_inv (k := true) h
  exact ⟨rfl, .nil⟩
theorem sd_argN (i : Nat) (es : I) (ih_es : IHT g G call n es) : IHT g G call n (.argN i es) := by
  intro M nd X W C h
  obtain ⟨x, p0, r, rfl, h⟩ := k_argN_inv (k := fun x r => rdOk M i x && mt g es M (.A r)) h
  replace h : (rdOk M i x && mt g es M (.A r)) = true := h
  rw [Bool.and_eq_true] at h
  have q := C.rd h.1
  obtain ⟨i1, i2⟩ := ih_es M (.A r) X W C h.2
  exact ⟨i1, .cons (pe_var q.hN q.v q.d q.cd) rfl i2⟩
theorem sd_consE (a0 : I) (es : I) (ih_a0 : IHT g G call n a0) (ih_es : IHT g G call n es) : IHT g G call n (.consE a0 es) := by
  intro M nd X W C h
  obtain ⟨e, r, rfl, h⟩ := k_consE_inv (k := fun e r => noStar e && mt g a0 M (.E e) && mt g es M (.A r)) h
  replace h : (noStar e && mt g a0 M (.E e) && mt g es M (.A r)) = true := h
  simp only [Bool.and_eq_true] at h
  obtain ⟨i1, i2⟩ := ih_es M (.A r) X W C h.2
  exact ⟨i1, .cons (ih_a0 M (.E e) X W C h.1.2).1 h.1.1 i2⟩
theorem sd_tupE (es : I) (ih_es : IHT g G call n es) : IHT g G call n (.tupE es) := by
  intro M nd X W C h
  obtain ⟨r, k0, p0, rfl, h⟩ := k_tupE_inv (k := fun r => mt g es M (.A r)) h
  replace h : (mt g es M (.A r)) = true := h
  obtain ⟨i1, i2⟩ := ih_es M (.A r) X W C h
  exact ⟨e_tup i1 i2, trivial⟩
theorem sd_lstE (es : I) (ih_es : IHT g G call n es) : IHT g G call n (.lstE es) := by
  intro M nd X W C h
  obtain ⟨r, p0, rfl, h⟩ := k_lstE_inv (k := fun r => mt g es M (.A r)) h
  replace h : (mt g es M (.A r)) = true := h
  obtain ⟨i1, i2⟩ := ih_es M (.A r) X W C h
  exact ⟨e_lst i1 i2, trivial⟩
theorem sd_bop (op : Operator) (es : I) (ih_es : IHT g G call n es) : IHT g G call n (.bop op es) := by
  intro M nd X W C h
  obtain ⟨a, o, b, p0, rfl, h⟩ := k_bop_inv (k := fun a o b => decide (op = o) && mt g es M (.A [a, b])) h
  replace h : (decide (op = o) && mt g es M (.A [a, b])) = true := h
  rw [Bool.and_eq_true] at h
  have e1 := of_decide_eq_true h.1
  subst e1
  obtain ⟨i1, i2⟩ := ih_es M (.A [a, b]) X W C h.2
  exact ⟨e_bop i1 i2, trivial⟩
theorem sd_cop (op : CmpOp) (es : I) (ih_es : IHT g G call n es) : IHT g G call n (.cop op es) := by
  intro M nd X W C h
  obtain ⟨a, o, b, p0, rfl, h⟩ := k_cop_inv (k := fun a o b => decide (op = o) && !behindInMarks o b && mt g es M (.A [a, b])) h
  replace h : (decide (op = o) && !behindInMarks o b && mt g es M (.A [a, b])) = true := h
  simp only [Bool.and_eq_true] at h
  have e1 := of_decide_eq_true h.1.1
  subst e1
  obtain ⟨i1, i2⟩ := ih_es M (.A [a, b]) X W C h.2
  exact ⟨e_cop (by have := C.room.un; omega) (by simpa using h.1.2) i1 i2, trivial⟩
theorem sd_uop (op : UnaryOp) (es : I) (ih_es : IHT g G call n es) : IHT g G call n (.uop op es) := by
  intro M nd X W C h
  obtain ⟨o, a, p0, rfl, h⟩ := k_uop_inv (k := fun o a => decide (op = o) && mt g es M (.A [a])) h
  replace h : (decide (op = o) && mt g es M (.A [a])) = true := h
  rw [Bool.and_eq_true] at h
  have e1 := of_decide_eq_true h.1
  subst e1
  obtain ⟨i1, i2⟩ := ih_es M (.A [a]) X W C h.2
  exact ⟨e_uop i1 i2, trivial⟩
theorem sd_ixe (es : I) (ih_es : IHT g G call n es) : IHT g G call n (.ixe es) := by
  intro M nd X W C h
  obtain ⟨a, b, p0, rfl, h⟩ := k_ixe_inv (k := fun a b => notSlice b && mt g es M (.A [a, b])) h
  replace h : (notSlice b && mt g es M (.A [a, b])) = true := h
  rw [Bool.and_eq_true] at h
  obtain ⟨i1, i2⟩ := ih_es M (.A [a, b]) X W C h.2
  exact ⟨e_ixe (plainIx_of h.1) i1 i2, trivial⟩
theorem sd_sle (lo : Bool) (hi : Bool) (es : I) (ih_es : IHT g G call n es) : IHT g G call n (.sle lo hi es) := by
  intro M nd X W C h
  obtain ⟨a, l, u, p1, p0, rfl, h⟩ := k_sle_inv (k := fun a l u => decide (lo = l.isSome) && decide (hi = u.isSome) && !(l.isSome && u.isSome) && mt g es M (.A (a :: (l.toList ++ u.toList)))) h
  replace h : (decide (lo = l.isSome) && decide (hi = u.isSome) && !(l.isSome && u.isSome) && mt g es M (.A (a :: (l.toList ++ u.toList)))) = true := h
  simp only [Bool.and_eq_true] at h
  obtain ⟨⟨⟨h1, h2⟩, h3⟩, h4⟩ := h
  have e1 := of_decide_eq_true h1
  have e2 := of_decide_eq_true h2
  subst e1; subst e2
  obtain ⟨i1, i2⟩ := ih_es M (.A (a :: (l.toList ++ u.toList))) X W C h4
  exact ⟨e_sle (by cases hh : (l.isSome && u.isSome) <;> simp_all) i1 i2, trivial⟩
theorem sd_blt (bb : B) (es : I) (ih_es : IHT g G call n es) : IHT g G call n (.blt bb es) := by
  intro M nd X W C h
  obtain ⟨x, p1, e, r, p0, rfl, h⟩ := k_blt_inv (k := fun x e r => glB M.sc x && decide (x = bb.name) && g.free.contains x && mt g es M (.A (e :: r))) h
  replace h : (glB M.sc x && decide (x = bb.name) && g.free.contains x && mt g es M (.A (e :: r))) = true := h
  simp only [Bool.and_eq_true] at h
  obtain ⟨⟨⟨h1, h2⟩, h3⟩, h4⟩ := h
  obtain ⟨i1, i2⟩ := ih_es M (.A (e :: r)) X W C h4
  exact ⟨e_blt C.calm C.guards (by have := C.room.un; omega) (of_decide_eq_true h2) (C.gl h1) (C.free _ h3) i1 i2, trivial⟩
theorem sd_sos (es : I) (ih_es : IHT g G call n es) : IHT g G call n (.sos es) := by
  intro M nd X W C h
  obtain ⟨x, p1, m, p2, e, p3, p0, rfl, h⟩ := k_sos_inv (k := fun x m e => glB M.sc x && glB M.sc m && decide (x = "sorted") && decide (m = "set") && g.free.contains x && g.free.contains m && mt g es M (.A [e])) h
  replace h : (glB M.sc x && glB M.sc m && decide (x = "sorted") && decide (m = "set") && g.free.contains x && g.free.contains m && mt g es M (.A [e])) = true := h
  simp only [Bool.and_eq_true] at h
  obtain ⟨⟨⟨⟨⟨⟨h1, h2⟩, h3⟩, h4⟩, h5⟩, h6⟩, h7⟩ := h
  obtain ⟨i1, i2⟩ := ih_es M (.A [e]) X W C h7
  exact ⟨e_sos C.calm (of_decide_eq_true h3) (of_decide_eq_true h4) (C.gl h1) (C.gl h2) (C.free _ h5) (C.free _ h6) i1 i2, trivial⟩
theorem sd_call (f : Nat) (es : I) (ih_es : IHT g G call n es) : IHT g G call n (.call f es) := by
  intro M nd X W C h
  obtain ⟨x, p1, e, r, p0, rfl, h⟩ := k_call_inv (k := fun x e r => glB M.sc x && ndB x && decide (g.fns.lookup f = some (x, (e :: r).length)) && mt g es M (.A (e :: r))) h
  replace h : (glB M.sc x && ndB x && decide (g.fns.lookup f = some (x, (e :: r).length)) && mt g es M (.A (e :: r))) = true := h
  simp only [Bool.and_eq_true] at h
  obtain ⟨⟨⟨h1, h2⟩, h3⟩, h4⟩ := h
  obtain ⟨i1, i2⟩ := ih_es M (.A (e :: r)) X W C h4
  obtain ⟨fa, fd, ps, f1, f2, f3, f4, f5⟩ := C.fns f x _ (of_decide_eq_true h3)
  exact ⟨e_call C.room C.guards C.tk f5 f1 f2 f3 (C.gl h1) (nd_of h2).1 f4 i1 i2, trivial⟩
theorem sd_tn (i : Nat)  : IHT g G call n (.tn i) := by
  intro M nd X W C h
  obtain ⟨x, p0, rfl, h⟩ := k_tn_inv (k := fun x => rdOk M i x) h
  replace h : (rdOk M i x) = true := h
  have r := C.rd h
  exact ⟨t_tn r.hN r.v r.d r.cd, fun h => nomatch h⟩
theorem sd_tv (a0 : I) (ih_a0 : IHT g G call n a0) : IHT g G call n (.tv a0) := by
  intro M nd X W C h
  obtain ⟨e, rfl, h⟩ := k_tv_inv (k := fun e => plainT e && mt g a0 M (.E e)) h
  replace h : (plainT e && mt g a0 M (.E e)) = true := h
  rw [Bool.and_eq_true] at h
  exact ⟨t_tv (ih_a0 M (.E e) X W C h.2).1 (plain_true h.1), fun hb => by
    cases e with
    | BoolOp _ _ _ => exact nomatch (show false = true from h.1)
    | _ => exact nomatch (show false = true from hb)⟩
theorem sd_tcp (op : CmpOp) (es : I) (ih_es : IHT g G call n es) : IHT g G call n (.tcp op es) := by
  intro M nd X W C h
  obtain ⟨a, o, b, p0, rfl, h⟩ := k_tcp_inv (k := fun a o b => decide (op = o) && !behindInMarks o b && mt g es M (.A [a, b])) h
  replace h : (decide (op = o) && !behindInMarks o b && mt g es M (.A [a, b])) = true := h
  simp only [Bool.and_eq_true] at h
  have e1 := of_decide_eq_true h.1.1
  subst e1
  obtain ⟨i1, i2⟩ := ih_es M (.A [a, b]) X W C h.2
  exact ⟨t_cop (by have := C.room.un; omega) (by simpa using h.1.2) i1 i2, fun h => nomatch h⟩
theorem sd_tch (o1 : CmpOp) (o2 : CmpOp) (a0 : I) (b0 : I) (c0 : I) (ih_a0 : IHT g G call n a0) (ih_b0 : IHT g G call n b0) (ih_c0 : IHT g G call n c0) : IHT g G call n (.tch o1 o2 a0 b0 c0) := by
  intro M nd X W C h
  obtain ⟨a', p, q, b', c', p0, rfl, h⟩ := k_tch_inv (k := fun a' p q b' c' => decide (o1 = p) && decide (o2 = q) && !lastMarks [p, q] [b', c'] && mt g a0 M (.E a') && mt g b0 M (.E b') && mt g c0 M (.E c')) h
  replace h : (decide (o1 = p) && decide (o2 = q) && !lastMarks [p, q] [b', c'] && mt g a0 M (.E a') && mt g b0 M (.E b') && mt g c0 M (.E c')) = true := h
  simp only [Bool.and_eq_true] at h
  obtain ⟨⟨⟨⟨⟨h1, h2⟩, h3⟩, h4⟩, h5⟩, h6⟩ := h
  have e1 := of_decide_eq_true h1
  have e2 := of_decide_eq_true h2
  subst e1; subst e2
  exact ⟨t_chn (by have := C.room.un; omega) (by simpa using h3) (ih_a0 M (.E a') X W C h4).1 (ih_b0 M (.E b') X W C h5).1 (ih_c0 M (.E c') X W C h6).1, fun h => nomatch h⟩
theorem sd_tnot (t0 : I) (ih_t0 : IHT g G call n t0) : IHT g G call n (.tnot t0) := by
  intro M nd X W C h
  obtain ⟨a, p0, rfl, h⟩ := k_tnot_inv (k := fun a => mt g t0 M (.T a)) h
  replace h : (mt g t0 M (.T a)) = true := h
  exact ⟨t_not (ih_t0 M (.T a) X W C h).1, fun h => nomatch h⟩
theorem sd_tand (a0 : I) (b0 : I) (ih_a0 : IHT g G call n a0) (ih_b0 : IHT g G call n b0) : IHT g G call n (.tand a0 b0) := by
  intro M nd X W C h
  obtain ⟨x, y, r, pos, rfl, h⟩ := k_tand_inv (k := fun x y r pos => mt g a0 M (.T x) && mt g b0 M (.T (restB .And y r pos))) h
  replace h : (mt g a0 M (.T x) && mt g b0 M (.T (restB .And y r pos))) = true := h
  rw [Bool.and_eq_true] at h
  have ha := (ih_a0 M (.T x) X W C h.1).1
  have hb : PW X (.BoolOp .And (y :: r) pos) (rT X (wnOf X.mg W) G call b0) := by
    cases r with
    | nil => exact pw_and1 (ih_b0 M (.T y) X W C h.2).1
    | cons z r => exact (ih_b0 M (.T (.BoolOp .And (y :: z :: r) pos)) X W C h.2).2 rfl
  have := t_and ha hb
  exact ⟨this.pt, fun _ => this⟩
theorem sd_tor (a0 : I) (b0 : I) (ih_a0 : IHT g G call n a0) (ih_b0 : IHT g G call n b0) : IHT g G call n (.tor a0 b0) := by
  intro M nd X W C h
  obtain ⟨x, y, r, pos, rfl, h⟩ := k_tor_inv (k := fun x y r pos => mt g a0 M (.T x) && mt g b0 M (.T (restB .Or y r pos))) h
  replace h : (mt g a0 M (.T x) && mt g b0 M (.T (restB .Or y r pos))) = true := h
  rw [Bool.and_eq_true] at h
  have ha := (ih_a0 M (.T x) X W C h.1).1
  have hb : PW X (.BoolOp .Or (y :: r) pos) (rT X (wnOf X.mg W) G call b0) := by
    cases r with
    | nil => exact pw_or1 (ih_b0 M (.T y) X W C h.2).1
    | cons z r => exact (ih_b0 M (.T (.BoolOp .Or (y :: z :: r) pos)) X W C h.2).2 rfl
  have := t_or ha hb
  exact ⟨this.pt, fun _ => this⟩
theorem sd_vand (a0 : I) (b0 : I) (ih_a0 : IHT g G call n a0) (ih_b0 : IHT g G call n b0) : IHT g G call n (.vand a0 b0) := by
  intro M nd X W C h
  obtain ⟨x, y, r, pos, rfl, h⟩ := k_vand_inv (k := fun x y r pos => mt g a0 M (.E x) && mt g b0 M (.E (restB .And y r pos))) h
  replace h : (mt g a0 M (.E x) && mt g b0 M (.E (restB .And y r pos))) = true := h
  rw [Bool.and_eq_true] at h
  have ha := (ih_a0 M (.E x) X W C h.1).1
  have hb : PE X (.BoolOp .And (y :: r) pos) (rE X (wnOf X.mg W) G call b0) := by
    cases r with
    | nil => exact pe_one (ih_b0 M (.E y) X W C h.2).1
    | cons z r => exact (ih_b0 M (.E (.BoolOp .And (y :: z :: r) pos)) X W C h.2).1
  exact ⟨e_vand ha hb, trivial⟩
theorem sd_vor (a0 : I) (b0 : I) (ih_a0 : IHT g G call n a0) (ih_b0 : IHT g G call n b0) : IHT g G call n (.vor a0 b0) := by
  intro M nd X W C h
  obtain ⟨x, y, r, pos, rfl, h⟩ := k_vor_inv (k := fun x y r pos => mt g a0 M (.E x) && mt g b0 M (.E (restB .Or y r pos))) h
  replace h : (mt g a0 M (.E x) && mt g b0 M (.E (restB .Or y r pos))) = true := h
  rw [Bool.and_eq_true] at h
  have ha := (ih_a0 M (.E x) X W C h.1).1
  have hb : PE X (.BoolOp .Or (y :: r) pos) (rE X (wnOf X.mg W) G call b0) := by
    cases r with
    | nil => exact pe_one (ih_b0 M (.E y) X W C h.2).1
    | cons z r => exact (ih_b0 M (.E (.BoolOp .Or (y :: z :: r) pos)) X W C h.2).1
  exact ⟨e_vor ha hb, trivial⟩
theorem sd_vnot (a0 : I) (ih_a0 : IHT g G call n a0) : IHT g G call n (.vnot a0) := by
  intro M nd X W C h
  obtain ⟨a, p0, rfl, h⟩ := k_vnot_inv (k := fun a => mt g a0 M (.E a)) h
  replace h : (mt g a0 M (.E a)) = true := h
  exact ⟨e_vnot (ih_a0 M (.E a) X W C h).1, trivial⟩
theorem sd_ife (c0 : I) (a0 : I) (b0 : I) (ih_c0 : IHT g G call n c0) (ih_a0 : IHT g G call n a0) (ih_b0 : IHT g G call n b0) : IHT g G call n (.ife c0 a0 b0) := by
  intro M nd X W C h
  obtain ⟨c', a', b', p0, rfl, h⟩ := k_ife_inv (k := fun c' a' b' => mt g c0 M (.T c') && mt g a0 M (.E a') && mt g b0 M (.E b')) h
  replace h : (mt g c0 M (.T c') && mt g a0 M (.E a') && mt g b0 M (.E b')) = true := h
  simp only [Bool.and_eq_true] at h
  exact ⟨e_ife (ih_c0 M (.T c') X W C h.1.1).1 (ih_a0 M (.E a') X W C h.1.2).1 (ih_b0 M (.E b') X W C h.2).1, trivial⟩
theorem sd_chn (o1 : CmpOp) (o2 : CmpOp) (a0 : I) (b0 : I) (c0 : I) (ih_a0 : IHT g G call n a0) (ih_b0 : IHT g G call n b0) (ih_c0 : IHT g G call n c0) : IHT g G call n (.chn o1 o2 a0 b0 c0) := by
  intro M nd X W C h
  obtain ⟨a', p, q, b', c', p0, rfl, h⟩ := k_chn_inv (k := fun a' p q b' c' => decide (o1 = p) && decide (o2 = q) && !lastMarks [p, q] [b', c'] && mt g a0 M (.E a') && mt g b0 M (.E b') && mt g c0 M (.E c')) h
  replace h : (decide (o1 = p) && decide (o2 = q) && !lastMarks [p, q] [b', c'] && mt g a0 M (.E a') && mt g b0 M (.E b') && mt g c0 M (.E c')) = true := h
  simp only [Bool.and_eq_true] at h
  obtain ⟨⟨⟨⟨⟨h1, h2⟩, h3⟩, h4⟩, h5⟩, h6⟩ := h
  have e1 := of_decide_eq_true h1
  have e2 := of_decide_eq_true h2
  subst e1; subst e2
  exact ⟨e_chn (by have := C.room.un; omega) (by simpa using h3) (ih_a0 M (.E a') X W C h4).1 (ih_b0 M (.E b') X W C h5).1 (ih_c0 M (.E c') X W C h6).1, trivial⟩
theorem sd_itV (a0 : I) (ih_a0 : IHT g G call n a0) : IHT g G call n (.itV a0) := by
  intro M nd X W C h
  obtain ⟨tg, e, rfl, h⟩ := k_itV_inv (k := fun tg e => notSet e && mt g a0 M (.E e)) h
  replace h : (notSet e && mt g a0 M (.E e)) = true := h
  rw [Bool.and_eq_true] at h
  exact i_itV (ih_a0 M (.E e) X W C h.2).1
theorem sd_itR (es : I) (ih_es : IHT g G call n es) : IHT g G call n (.itR es) := by
  intro M nd X W C h
  obtain ⟨tg, x, p1, a, p0, rfl, h⟩ := k_itR_inv (k := fun tg x a => glB M.sc x && decide (x = "range") && g.free.contains x && mt g es M (.A [a])) h
  replace h : (glB M.sc x && decide (x = "range") && g.free.contains x && mt g es M (.A [a])) = true := h
  simp only [Bool.and_eq_true] at h
  obtain ⟨⟨⟨h1, h2⟩, h3⟩, h4⟩ := h
  have e1 : x = "range" := of_decide_eq_true h2
  subst e1
  obtain ⟨i1, i2⟩ := ih_es M (.A [a]) X W C h4
  exact i_rng1 (C.gl h1) (C.free _ h3) i1 i2
theorem sd_itR2 (es : I) (ih_es : IHT g G call n es) : IHT g G call n (.itR2 es) := by
  intro M nd X W C h
  obtain ⟨tg, x, p1, a, b, p0, rfl, h⟩ := k_itR2_inv (k := fun tg x a b => glB M.sc x && decide (x = "range") && g.free.contains x && mt g es M (.A [a, b])) h
  replace h : (glB M.sc x && decide (x = "range") && g.free.contains x && mt g es M (.A [a, b])) = true := h
  simp only [Bool.and_eq_true] at h
  obtain ⟨⟨⟨h1, h2⟩, h3⟩, h4⟩ := h
  have e1 : x = "range" := of_decide_eq_true h2
  subst e1
  obtain ⟨i1, i2⟩ := ih_es M (.A [a, b]) X W C h4
  exact i_rng2 (C.gl h1) (C.free _ h3) i1 i2
theorem sd_tN (i : Nat)  : IHT g G call n (.tN i) := by
  intro M nd X W C h
  obtain ⟨x, p0, rfl, h⟩ := k_tN_inv (k := fun x => stOk M i x) h
  replace h : (stOk M i x) = true := h
  obtain ⟨s1, s2, s3⟩ := C.st h
  exact g_name (by rw [C.N]; exact C.nd) s1 s2 s3
theorem sd_tT (ts : I) (ih_ts : IHT g G call n ts) : IHT g G call n (.tT ts) := by
  intro M nd X W C h
  obtain ⟨r, k0, p0, rfl, h⟩ := k_tT_inv (k := fun r => mt g ts M (.Gs r)) h
  replace h : (mt g ts M (.Gs r)) = true := h
  obtain ⟨i1, i2, i3⟩ := ih_ts M (.Gs r) X W C h
  exact g_tup C.calm i1 i2 i3
theorem sd_tNil   : IHT g G call n (.tNil ) := by
  intro M nd X W C h
  obtain ⟨rfl, h⟩ := k_tNil_inv (k := true) h
  exact ⟨gs_nil, rfl, rfl⟩
theorem sd_tCons (t0 : I) (ts : I) (ih_t0 : IHT g G call n t0) (ih_ts : IHT g G call n ts) : IHT g G call n (.tCons t0 ts) := by
  intro M nd X W C h
  obtain ⟨e, r, rfl, h⟩ := k_tCons_inv (k := fun e r => noStar e && mt g t0 M (.G e) && mt g ts M (.Gs r)) h
  replace h : (noStar e && mt g t0 M (.G e) && mt g ts M (.Gs r)) = true := h
  simp only [Bool.and_eq_true] at h
  obtain ⟨i1, i2, i3⟩ := ih_ts M (.Gs r) X W C h.2
  have sa := star_assign (es := r) (env := X.env) h.1.1
  refine ⟨gs_cons (ih_t0 M (.G e) X W C h.1.2) i1 (by rw [sa]; rfl), ?_, ?_⟩
  · rw [sa, List.length_cons, i2]; rfl
  · rw [sa, List.findIdx?_cons]
    simp [i3]
theorem sd_ifN   : IHT g G call n (.ifN ) := by
  intro M nd X W C h
  obtain ⟨rfl, h⟩ := k_ifN_inv (k := true) h
  exact ⟨fun pins s σ H Q I ⟨Z, e, E, q⟩ => pts_nil.run pins s σ H Q I (by have q' := q; simp only [ev, tstOf] at q'; exact q' H (Step.refl E))⟩
theorem sd_ifC (c0 : I) (ih_c0 : IHT g G call n c0) : IHT g G call n (.ifC c0) := by
  intro M nd X W C h
  obtain ⟨e, rfl, h⟩ := k_ifC_inv (k := fun e => mt g c0 M (.T e)) h
  replace h : (mt g c0 M (.T e)) = true := h
  have := pts_one (ih_c0 M (.T e) X W C h).1
  refine ⟨fun pins s σ H Q I ⟨Z, en, E, q⟩ => this.run pins s σ H Q I ⟨Z, en, E, ?_⟩⟩
  have q' := q
  simp only [ev] at q'
  exact q'
theorem sd_lc (own : List Nat) (tg0 : I) (it0 : I) (ifs0 : I) (x0 : I) (ih_tg0 : IHT g G call n tg0) (ih_it0 : IHT g G call n it0) (ih_ifs0 : IHT g G call n ifs0) (ih_x0 : IHT g G call n x0) : IHT g G call n (.lc own tg0 it0 ifs0 x0) := by
  intro M nd X W C h
  obtain ⟨elt, tg', it', ifs', kk, scope, p0, rfl, h⟩ := k_lc_inv (k := fun elt tg' it' ifs' kk scope => decide (kk = 0) && notSet it' && mt g it0 M (.It tg' it') && blkC M.N M.sc scope (own.map fun i => (M.N.getD i Str.empty, i)) && isSub (slots tg0) own && mt g tg0 ⟨M.N, relS scope M.sc, some scope, []⟩ (.G tg') && mt g ifs0 ⟨M.N, relS scope M.sc, some scope, []⟩ (.Ifs ifs') && mt g x0 ⟨M.N, relS scope M.sc, some scope, []⟩ (.E elt)) h
  replace h : (decide (kk = 0) && notSet it' && mt g it0 M (.It tg' it') && blkC M.N M.sc scope (own.map fun i => (M.N.getD i Str.empty, i)) && isSub (slots tg0) own && mt g tg0 ⟨M.N, relS scope M.sc, some scope, []⟩ (.G tg') && mt g ifs0 ⟨M.N, relS scope M.sc, some scope, []⟩ (.Ifs ifs') && mt g x0 ⟨M.N, relS scope M.sc, some scope, []⟩ (.E elt)) = true := h
  simp only [Bool.and_eq_true] at h
  obtain ⟨⟨⟨⟨⟨⟨⟨h1, h2⟩, h3⟩, h4⟩, h5⟩, h6⟩, h7⟩, h8⟩ := h
  have e1 : kk = 0 := of_decide_eq_true h1
  subst e1
  have hk := blk_kind h4
  have parts : Lc1 X (wnOf X.mg W) G call (.lc own tg0 it0 ifs0 x0) (.ListComp elt [⟨tg', it', ifs', 0⟩] scope p0) := by
    refine ⟨rfl, own.map fun i => (M.N.getD i Str.empty, i), rI X (wnOf X.mg W) G call it0, tG X.K tg0, rT X (wnOf X.mg fun _ _ _ _ => False) G call ifs0, rE X (wnOf X.mg fun _ _ _ _ => False) G call x0, ih_it0 M (.It tg' it') X W C h3, ?_, ?_, ?_, ?_, notSet_fold h2, ?_⟩
    · rw [C.N, C.sc]; exact blkOk_by h4
    · intro s H Cc cl fp
      exact ih_tg0 _ (.G tg') _ _ (C.blk hk) h6
    · intro s H Cc cl fp
      exact ih_ifs0 _ (.Ifs ifs') _ _ (C.blk hk) h7
    · intro s H Cc cl fp
      exact (ih_x0 _ (.E elt) _ _ (C.blk hk) h8).1
    · intro σ H Q ⟨Z, en, E, q⟩
      rw [map_own]
      exact lc_read (Wn := wnOf X.mg W) (Wn' := wnOf X.mg fun _ _ _ _ => False) (sub_of h5) (fun _ _ _ q => q) (fun _ _ _ _ q => q) (fun _ _ _ q => q) (fun _ _ _ q => q) E q
  exact lc_parts C.calm (by rw [C.N]; exact C.nd) parts
theorem sd_lc2 (own : List Nat) (own1 : List Nat) (tg0 : I) (it0 : I) (ifs0 : I) (tg1 : I) (it1 : I) (ifs1 : I) (x0 : I) (ih_tg0 : IHT g G call n tg0) (ih_it0 : IHT g G call n it0) (ih_ifs0 : IHT g G call n ifs0) (ih_tg1 : IHT g G call n tg1) (ih_it1 : IHT g G call n it1) (ih_ifs1 : IHT g G call n ifs1) (ih_x0 : IHT g G call n x0) : IHT g G call n (.lc2 own own1 tg0 it0 ifs0 tg1 it1 ifs1 x0) := by
  intro M nd X W C h
  obtain ⟨elt, tg', it', ifs', kk, tg2, it2, ifs2, kk2, scope, p0, rfl, h⟩ := k_lc2_inv (k := fun elt tg' it' ifs' kk tg2 it2 ifs2 kk2 scope => decide (kk = 0) && decide (kk2 = 0) && notSet it' && notSet it2 && isSub own1 own && mt g it0 M (.It tg' it') && blkC M.N M.sc scope (own.map fun i => (M.N.getD i Str.empty, i)) && isSub (slots tg0) own && isSub (slots tg1) own1 && mt g tg0 ⟨M.N, relS scope M.sc, some scope, []⟩ (.G tg') && mt g ifs0 ⟨M.N, relS scope M.sc, some scope, []⟩ (.Ifs ifs') && mt g it1 ⟨M.N, relS scope M.sc, some scope, []⟩ (.It tg2 it2) && mt g tg1 ⟨M.N, relS scope M.sc, some scope, []⟩ (.G tg2) && mt g ifs1 ⟨M.N, relS scope M.sc, some scope, []⟩ (.Ifs ifs2) && mt g x0 ⟨M.N, relS scope M.sc, some scope, []⟩ (.E elt)) h
  replace h : (decide (kk = 0) && decide (kk2 = 0) && notSet it' && notSet it2 && isSub own1 own && mt g it0 M (.It tg' it') && blkC M.N M.sc scope (own.map fun i => (M.N.getD i Str.empty, i)) && isSub (slots tg0) own && isSub (slots tg1) own1 && mt g tg0 ⟨M.N, relS scope M.sc, some scope, []⟩ (.G tg') && mt g ifs0 ⟨M.N, relS scope M.sc, some scope, []⟩ (.Ifs ifs') && mt g it1 ⟨M.N, relS scope M.sc, some scope, []⟩ (.It tg2 it2) && mt g tg1 ⟨M.N, relS scope M.sc, some scope, []⟩ (.G tg2) && mt g ifs1 ⟨M.N, relS scope M.sc, some scope, []⟩ (.Ifs ifs2) && mt g x0 ⟨M.N, relS scope M.sc, some scope, []⟩ (.E elt)) = true := h
  simp only [Bool.and_eq_true] at h
  obtain ⟨⟨⟨⟨⟨⟨⟨⟨⟨⟨⟨⟨⟨⟨h1, h2⟩, h3⟩, h4⟩, h5⟩, h6⟩, h7⟩, h8⟩, h9⟩, i1⟩, i2⟩, i3⟩, i4⟩, i5⟩, i6⟩ := h
  have e1 : kk = 0 := of_decide_eq_true h1
  have e2 : kk2 = 0 := of_decide_eq_true h2
  subst e1 e2
  have hk := blk_kind h7
  have rd : ∀ σ H Q, rE X (wnOf X.mg W) G call (.lc2 own own1 tg0 it0 ifs0 tg1 it1 ifs1 x0) σ H Q → tLc2 (rI X (wnOf X.mg W) G call it0) (tG X.K tg0) (rT X (wnOf X.mg fun _ _ _ _ => False) G call ifs0) (rI X (wnOf X.mg fun _ _ _ _ => False) G call it1) (tG X.K tg1) (rT X (wnOf X.mg fun _ _ _ _ => False) G call ifs1) (rE X (wnOf X.mg fun _ _ _ _ => False) G call x0) ((own.map fun i => (M.N.getD i Str.empty, i)).map (·.2)) own1 σ H Q := by
    intro σ H Q ⟨Z, en, E, q⟩
    rw [map_own]
    exact lc2_read (Wn := wnOf X.mg W) (Wn' := wnOf X.mg fun _ _ _ _ => False) (sub_of h8) (sub_of h9) (sub_of h5) (fun _ _ _ q => q) (fun _ _ _ _ q => q) (fun _ _ _ q => q) (fun _ _ _ q => q) (fun _ _ _ _ q => q) (fun _ _ _ q => q) (fun _ _ _ q => q) E q
  have hN : X.N.Nodup := by rw [C.N]; exact C.nd
  have hb : BlkOk X.N X.env.scope scope (own.map fun i => (M.N.getD i Str.empty, i)) := by rw [C.N, C.sc]; exact blkOk_by h7
  have hv : ∀ i ∈ own1, i ∈ (own.map fun i => (M.N.getD i Str.empty, i)).map (·.2) := by rw [map_own]; exact sub_of h5
  have a1 : ∀ (s : Shared) (H : Hp) (C : Addr) (cl : List (Str × Addr)) (fp : List Addr), PG (X.blk s H scope (compEnvC scope cl C X.env) fp) tg' (tG X.K tg0) := fun s H Cc cl fp => ih_tg0 _ (.G tg') _ _ (C.blk hk) i1
  have a2 : ∀ (s : Shared) (H : Hp) (C : Addr) (cl : List (Str × Addr)) (fp : List Addr), PTs (X.blk s H scope (compEnvC scope cl C X.env) fp) ifs' (rT X (wnOf X.mg fun _ _ _ _ => False) G call ifs0) := fun s H Cc cl fp => ih_ifs0 _ (.Ifs ifs') _ _ (C.blk hk) i2
  have a3 : ∀ (s : Shared) (H : Hp) (C : Addr) (cl : List (Str × Addr)) (fp : List Addr), PI (X.blk s H scope (compEnvC scope cl C X.env) fp) tg2 it2 (rI X (wnOf X.mg fun _ _ _ _ => False) G call it1) := fun s H Cc cl fp => ih_it1 _ (.It tg2 it2) _ _ (C.blk hk) i3
  have a4 : ∀ (s : Shared) (H : Hp) (C : Addr) (cl : List (Str × Addr)) (fp : List Addr), PG (X.blk s H scope (compEnvC scope cl C X.env) fp) tg2 (tG X.K tg1) := fun s H Cc cl fp => ih_tg1 _ (.G tg2) _ _ (C.blk hk) i4
  have a5 : ∀ (s : Shared) (H : Hp) (C : Addr) (cl : List (Str × Addr)) (fp : List Addr), PTs (X.blk s H scope (compEnvC scope cl C X.env) fp) ifs2 (rT X (wnOf X.mg fun _ _ _ _ => False) G call ifs1) := fun s H Cc cl fp => ih_ifs1 _ (.Ifs ifs2) _ _ (C.blk hk) i5
  have a6 : ∀ (s : Shared) (H : Hp) (C : Addr) (cl : List (Str × Addr)) (fp : List Addr), PE (X.blk s H scope (compEnvC scope cl C X.env) fp) elt (rE X (wnOf X.mg fun _ _ _ _ => False) G call x0) := fun s H Cc cl fp => (ih_x0 _ (.E elt) _ _ (C.blk hk) i6).1
  have a0 := ih_it0 M (.It tg' it') X W C h6
  exact ⟨pe_imp (pe_lc2 C.calm hN a0 hb hv a1 a2 a3 a4 a5 a6 (notSet_fold h3) (fun env => notSet_fold h4)) rd, _, fun i y py spos hy hyl hsw => ps_setLc2 C.calm hN hy hyl hsw a0 hb hv a1 a2 a3 a4 a5 a6 (notSet_fold h3) (fun env => notSet_fold h4), rd⟩
theorem sd_lcO (own : List Nat) (i : Nat) (tg0 : I) (ifs0 : I) (x0 : I) (ih_tg0 : IHT g G call n tg0) (ih_ifs0 : IHT g G call n ifs0) (ih_x0 : IHT g G call n x0) : IHT g G call n (.lcO own i tg0 ifs0 x0) := by
  intro M nd X W C h
  obtain ⟨elt, tg', x, p1, ifs', kk, scope, p0, rfl, h⟩ := k_lcO_inv (k := fun elt tg' x ifs' kk scope => decide (kk = 0) && rdOk M i x && !own.contains i && blkC M.N M.sc scope (own.map fun i => (M.N.getD i Str.empty, i)) && isSub (slots tg0) own && mt g tg0 ⟨M.N, relS scope M.sc, some scope, []⟩ (.G tg') && mt g ifs0 ⟨M.N, relS scope M.sc, some scope, []⟩ (.Ifs ifs') && mt g x0 ⟨M.N, relS scope M.sc, some scope, []⟩ (.E elt)) h
  replace h : (decide (kk = 0) && rdOk M i x && !own.contains i && blkC M.N M.sc scope (own.map fun i => (M.N.getD i Str.empty, i)) && isSub (slots tg0) own && mt g tg0 ⟨M.N, relS scope M.sc, some scope, []⟩ (.G tg') && mt g ifs0 ⟨M.N, relS scope M.sc, some scope, []⟩ (.Ifs ifs') && mt g x0 ⟨M.N, relS scope M.sc, some scope, []⟩ (.E elt)) = true := h
  simp only [Bool.and_eq_true] at h
  obtain ⟨⟨⟨⟨⟨⟨⟨h1, h2⟩, h3⟩, h4⟩, h5⟩, h6⟩, h7⟩, h8⟩ := h
  have e1 : kk = 0 := of_decide_eq_true h1
  subst e1
  have hio : i ∉ own := by simpa using h3
  have hk := blk_kind h4
  have r := C.rd h2
  have pv := pe_var (X := X) (pos := p1) r.hN r.v r.d r.cd
  have pw : PE X (.Name x p1) (rE X (wnOf X.mg W) G call (.var i)) := pe_imp pv fun σ H Q ⟨Z, e, E, q⟩ => ew_var E q
  have parts : Lc1 X (wnOf X.mg W) G call (.lcO own i tg0 ifs0 x0) (.ListComp elt [⟨tg', .Name x p1, ifs', 0⟩] scope p0) := by
    refine ⟨rfl, own.map fun i => (M.N.getD i Str.empty, i), _, tG X.K tg0, rT X (wnOf X.mg fun _ _ _ _ => False) G call ifs0, rE X (wnOf X.mg fun _ _ _ _ => False) G call x0, pi_or (pi_list pv) (i_itV pw), ?_, ?_, ?_, ?_, fun x => rfl, ?_⟩
    · rw [C.N, C.sc]; exact blkOk_by h4
    · intro s H Cc cl fp
      exact ih_tg0 _ (.G tg') _ _ (C.blk hk) h6
    · intro s H Cc cl fp
      exact ih_ifs0 _ (.Ifs ifs') _ _ (C.blk hk) h7
    · intro s H Cc cl fp
      exact (ih_x0 _ (.E elt) _ _ (C.blk hk) h8).1
    · intro σ H Q ⟨Z, en, E, q⟩
      rw [map_own]
      have q' : EW X.K Z en σ H (wnOf X.mg W σ) (valOf (ev G call (.lcO own i tg0 ifs0 x0) en)) Q := q
      cases hei : en[i]? with
      | none => rw [ev, hei] at q'; exact q'.elim
      | some sl =>
        cases sl with
        | un => rw [ev, hei] at q'; exact q'.elim
        | mv => rw [ev, hei] at q'; exact q'.elim
        | sh d =>
          rw [val_lcS hei] at q'
          exact .inr (lc_read (it := .itV (.var i)) (wi := rI X (wnOf X.mg W) G call (.itV (.var i))) (Wn := wnOf X.mg W) (Wn' := wnOf X.mg fun _ _ _ _ => False) (sub_of h5) (fun _ _ _ q => q) (fun _ _ _ _ q => q) (fun _ _ _ q => q) (fun _ _ _ q => q) E q')
        | ow d =>
          cases d with
          | lst ds => exact .inl (lcO_read (Wn := wnOf X.mg W) (Wn' := wnOf X.mg fun _ _ _ _ => False) (sub_of h5) hio hei (fun _ _ _ _ q => q) (fun _ _ _ q => q) (fun _ _ _ q => q) E q')
          | _ => rw [ev, hei] at q'; exact q'.elim
  exact lc_parts C.calm (by rw [C.N]; exact C.nd) parts
theorem sd_forO (i : Nat) (t0 : I) (b0 : I) (ih_t0 : IHT g G call n t0) (ih_b0 : IHT g G call n b0) : IHT g G call n (.forO i t0 b0) := by
  intro M nd X W C h
  obtain ⟨tg, x, p1, b1, p0, rfl, h⟩ := k_forO_inv (k := fun tg x b1 => rdOk M i x && isSub (slots t0) (M.is.filter fun j => !(j == i)) && mt g t0 M (.G tg) && mt g b0 ⟨M.N, M.sc, M.fn, M.is.filter fun j => !(j == i)⟩ (.Ss b1)) h
  replace h : (rdOk M i x && isSub (slots t0) (M.is.filter fun j => !(j == i)) && mt g t0 M (.G tg) && mt g b0 ⟨M.N, M.sc, M.fn, M.is.filter fun j => !(j == i)⟩ (.Ss b1)) = true := h
  simp only [Bool.and_eq_true] at h
  obtain ⟨⟨⟨h1, h2⟩, h3⟩, h4⟩ := h
  have r := C.rd h1
  have C' : Cok g G call n X ⟨M.N, M.sc, M.fn, M.is.filter fun j => !(j == i)⟩ W := ⟨C.N, C.nd, C.sc, C.kind, C.fn, C.calm, C.room, C.guards, C.tk, C.po, C.con, C.free, C.fns, C.top, C.exc, C.try_⟩
  exact s_forO C.po C.calm r.hN r.v r.d r.cd (fun j hj => (List.mem_filter.mp hj).1) (fun hj => by simpa using (List.mem_filter.mp hj).2) (sub_of h2) (ih_t0 M (.G tg) X W C h3) (ih_b0 _ (.Ss b1) X W C' h4)
theorem sd_skip   : IHT g G call n (.skip ) := by
  intro M nd X W C h
  obtain ⟨rfl, h⟩ := k_skip_inv (k := true) h
  exact pss_skip
theorem sd_seq (a0 : I) (b0 : I) (ih_a0 : IHT g G call n a0) (ih_b0 : IHT g G call n b0) : IHT g G call n (.seq a0 b0) := by
  intro M nd X W C h
  obtain ⟨s, r, rfl, h⟩ := k_seq_inv (k := fun s r => mt g a0 M (.S s) && mt g b0 M (.Ss r)) h
  replace h : (mt g a0 M (.S s) && mt g b0 M (.Ss r)) = true := h
  rw [Bool.and_eq_true] at h
  exact pss_seq (ih_a0 M (.S s) X W C h.1) (ih_b0 M (.Ss r) X W C h.2)
theorem sd_exs (a0 : I) (ih_a0 : IHT g G call n a0) : IHT g G call n (.exs a0) := by
  intro M nd X W C h
  obtain ⟨v, p0, rfl, h⟩ := k_exs_inv (k := fun v => notComp v && mt g a0 M (.E v)) h
  replace h : (notComp v && mt g a0 M (.E v)) = true := h
  rw [Bool.and_eq_true] at h
  exact s_exs (ih_a0 M (.E v) X W C h.2).1 (swaps_plain h.1)
theorem sd_asg (t0 : I) (a0 : I) (ih_t0 : IHT g G call n t0) (ih_a0 : IHT g G call n a0) : IHT g G call n (.asg t0 a0) := by
  intro M nd X W C h
  obtain ⟨tg, v, p0, rfl, h⟩ := k_asg_inv (k := fun tg v => asgB M v t0 tg && mt g t0 M (.G tg) && mt g a0 M (.E v)) h
  replace h : (asgB M v t0 tg && mt g t0 M (.G tg) && mt g a0 M (.E v)) = true := h
  simp only [Bool.and_eq_true] at h
  obtain ⟨⟨h1, h2⟩, h3⟩ := h
  obtain ⟨pv, lc⟩ := ih_a0 M (.E v) X W C h3
  have pg := ih_t0 M (.G tg) X W C h2
  have hN : X.N.Nodup := by rw [C.N]; exact C.nd
  cases t0 with
  | tN i =>
    cases tg with
    | Name x p =>
      replace h1 : (stOk M i x && M.is.contains i && (plainAsg M x p v || lcAsg M x p v)) = true := h1
      rw [Bool.and_eq_true, Bool.and_eq_true, Bool.or_eq_true] at h1
      obtain ⟨⟨k1, k2⟩, k3⟩ := h1
      obtain ⟨s1, s2, s3⟩ := C.st k1
      have hi : i ∈ M.is := by simpa using k2
      rcases k3 with k3 | k3
      · refine s_asg hN s1 s2 s3 hi pv ?_
        unfold plainAsg at k3
        rw [Bool.or_eq_true] at k3
        rcases k3 with k3 | k3
        · exact swaps_plain k3
        · refine swaps_cell ?_
          rw [C.sc]
          have : isLoc M.sc x = false := by simpa using k3
          exact of_decide_eq_false this
      · -- a comprehension, its store exchanged
        cases v with
        | ListComp elt gens scope pos' =>
          replace k3 : (isLoc M.sc x && (p.line == pos'.line) && !(scope.names.any fun (n, k) => n == x && (k == .local || k == .cell))) = true := k3
          rw [Bool.and_eq_true, Bool.and_eq_true] at k3
          obtain ⟨⟨l1, l2⟩, l3⟩ := k3
          obtain ⟨te, w1, w2⟩ := lc
          have hl : X.env.scope.names.lookup x = some .local := by rw [C.sc]; exact of_decide_eq_true l1
          exact ps_imp (w1 _ x _ _ s1 hl (sw_true (by rw [C.sc]; exact C.kind) hl l2 (by simpa using l3))) (asg_read hi w2)
        | _ => exact nomatch (show false = true from k3)
    | _ => exact nomatch (show false = true from h1)
  | tT ts =>
    cases tg with
    | Tuple es k p =>
      replace h1 : (notComp v && notTup v && isSub (slots (.tT ts)) M.is) = true := h1
      rw [Bool.and_eq_true, Bool.and_eq_true] at h1
      obtain ⟨⟨k1, k2⟩, k3⟩ := h1
      exact s_asgT (fun i q => nomatch q) (sub_of k3) pv pg (show swapsWith v (some (.Tuple es k p)) p0.line X.env = pure false from swaps_plain k1) (swapped_none k2) rfl
    | _ => exact nomatch (show false = true from h1)
  | _ => exact nomatch (show false = true from h1)
theorem sd_aug (i : Nat) (op : Operator) (a0 : I) (ih_a0 : IHT g G call n a0) : IHT g G call n (.aug i op a0) := by
  intro M nd X W C h
  obtain ⟨x, p1, o, v, p0, rfl, h⟩ := k_aug_inv (k := fun x o v => decide (op = o) && stOk M i x && M.is.contains i && mt g a0 M (.E v)) h
  replace h : (decide (op = o) && stOk M i x && M.is.contains i && mt g a0 M (.E v)) = true := h
  simp only [Bool.and_eq_true] at h
  obtain ⟨⟨⟨h1, h2⟩, h3⟩, h4⟩ := h
  have e1 := of_decide_eq_true h1
  subst e1
  obtain ⟨s1, s2, s3⟩ := C.st h2
  exact s_aug (by rw [C.N]; exact C.nd) s1 s2 s3 (by simpa using h3) (ih_a0 M (.E v) X W C h4).1
theorem sd_app (i : Nat) (a0 : I) (ih_a0 : IHT g G call n a0) : IHT g G call n (.app i a0) := by
  intro M nd X W C h
  obtain ⟨x, p3, m, ap, v, cp, p0, rfl, h⟩ := k_app_inv (k := fun x m ap v cp => decide (m = "append") && rdOk M i x && noStar v && (ap.endLine == cp.line) && mt g a0 M (.E v)) h
  replace h : (decide (m = "append") && rdOk M i x && noStar v && (ap.endLine == cp.line) && mt g a0 M (.E v)) = true := h
  simp only [Bool.and_eq_true] at h
  obtain ⟨⟨⟨⟨h1, h2⟩, h3⟩, h4⟩, h5⟩ := h
  have e1 : m = "append" := of_decide_eq_true h1
  subst e1
  have r := C.rd h2
  exact s_app r.hN r.v r.d r.cd h3 (ih_a0 M (.E v) X W C h5).1 h4
theorem sd_sti (i : Nat) (k0 : I) (a0 : I) (ih_k0 : IHT g G call n k0) (ih_a0 : IHT g G call n a0) : IHT g G call n (.sti i k0 a0) := by
  intro M nd X W C h
  obtain ⟨x, p3, k', p1, v, p0, rfl, h⟩ := k_sti_inv (k := fun x k' v => rdOk M i x && notSlice k' && mt g k0 M (.E k') && mt g a0 M (.E v)) h
  replace h : (rdOk M i x && notSlice k' && mt g k0 M (.E k') && mt g a0 M (.E v)) = true := h
  simp only [Bool.and_eq_true] at h
  obtain ⟨⟨⟨h1, h2⟩, h3⟩, h4⟩ := h
  have r := C.rd h1
  exact s_sti r.hN r.v r.d r.cd h2 (ih_a0 M (.E v) X W C h4).1 (ih_k0 M (.E k') X W C h3).1
theorem sd_raiseS (x0 : Str)  : IHT g G call n (.raiseS x0) := by
  intro M nd X W C h
  obtain ⟨x, p1, p2, p0, rfl, h⟩ := k_raiseS_inv (k := fun x => decide (x0 = x) && glB M.sc x && ndB x && g.exc.contains x) h
  replace h : (decide (x0 = x) && glB M.sc x && ndB x && g.exc.contains x) = true := h
  simp only [Bool.and_eq_true] at h
  obtain ⟨⟨⟨h1, h2⟩, h3⟩, h4⟩ := h
  have e1 := of_decide_eq_true h1
  subst e1
  obtain ⟨K1, k1, k2⟩ := C.exc _ h4
  exact s_raise C.calm C.tk k1 k2 (C.gl h2) (nd_of h3).1
theorem sd_tryA (i : Nat) (x0 : Str) (b0 : I) (ih_b0 : IHT g G call n b0) : IHT g G call n (.tryA i x0 b0) := by
  intro M nd X W C h
  obtain ⟨b1, x, p1, m, y, p2, z, p3, p4, p5, p6, p0, rfl, h⟩ := k_tryA_inv (k := fun b1 x m y z => decide (x0 = x) && decide (z = m) && decide (M.N[i]? = some m) && isLoc M.sc m && ndB m && glB M.sc x && ndB x && glB M.sc y && ndB y && decide (g.tell = some y) && g.par.contains x && M.fn.isNone && mt g b0 M (.Ss b1)) h
  replace h : (decide (x0 = x) && decide (z = m) && decide (M.N[i]? = some m) && isLoc M.sc m && ndB m && glB M.sc x && ndB x && glB M.sc y && ndB y && decide (g.tell = some y) && g.par.contains x && M.fn.isNone && mt g b0 M (.Ss b1)) = true := h
  simp only [Bool.and_eq_true] at h
  obtain ⟨⟨⟨⟨⟨⟨⟨⟨⟨⟨⟨⟨h1, h2⟩, h3⟩, h4⟩, h5⟩, h6⟩, h7⟩, h8⟩, h9⟩, h10⟩, h11⟩, h12⟩, h13⟩ := h
  have e1 := of_decide_eq_true h1
  have e2 := of_decide_eq_true h2
  subst e1
  subst e2
  obtain ⟨P1, f1, fd1, tab1, t1, t2, t3, t4, t5, t6⟩ := C.try_ _ _ h11 (of_decide_eq_true h10)
  obtain ⟨u1, u2⟩ := C.top (by cases hM : M.fn with | none => rfl | some _ => rw [hM] at h12; exact nomatch (show false = true from h12))
  exact s_tryA ⟨u1, u2, by rw [C.N]; exact C.nd, by rw [C.N]; exact of_decide_eq_true h3, by show X.env.scope.names.lookup _ = _; rw [C.sc]; exact of_decide_eq_true h4, (nd_of h5).1, (nd_of h5).2, C.gl h6, (nd_of h7).1, t1, C.tk, t2, t3, ⟨by have := C.room.dp; omega, by have := C.room.un; omega⟩, C.gl h8, (nd_of h9).1, t4, t5, t6⟩
    fun W' pn xe tk po => ih_b0 M (.Ss b1) (X.tr pn xe) W' ⟨C.N, C.nd, C.sc, C.kind, C.fn, C.calm, C.room, C.guards, tk, po, C.con, C.free, C.fns, C.top, C.exc, C.try_⟩ h13
theorem sd_tryT (i : Nat) (x0 : Str) (s0 : Str) (b0 : I) (ih_b0 : IHT g G call n b0) : IHT g G call n (.tryT i x0 s0 b0) := by
  intro M nd X W C h
  obtain ⟨b1, x, p1, m, t, k0, p7, y, p2, z, p3, p4, k1, p8, p5, p6, p0, rfl, h⟩ := k_tryT_inv (k := fun b1 x m t y z => decide (x0 = x) && decide (z = m) && decide (M.N[i]? = some m) && isLoc M.sc m && ndB m && glB M.sc x && ndB x && glB M.sc y && ndB y && decide (g.tell = some y) && g.par.contains x && M.fn.isNone && decide (s0 = t) && mt g b0 M (.Ss b1)) h
  replace h : (decide (x0 = x) && decide (z = m) && decide (M.N[i]? = some m) && isLoc M.sc m && ndB m && glB M.sc x && ndB x && glB M.sc y && ndB y && decide (g.tell = some y) && g.par.contains x && M.fn.isNone && decide (s0 = t) && mt g b0 M (.Ss b1)) = true := h
  simp only [Bool.and_eq_true] at h
  obtain ⟨⟨⟨⟨⟨⟨⟨⟨⟨⟨⟨⟨⟨h1, h2⟩, h3⟩, h4⟩, h5⟩, h6⟩, h7⟩, h8⟩, h9⟩, h10⟩, h11⟩, h12⟩, h14⟩, h13⟩ := h
  have e1 := of_decide_eq_true h1
  have e2 := of_decide_eq_true h2
  subst e1
  subst e2
  have e3 := of_decide_eq_true h14
  subst e3
  obtain ⟨P1, f1, fd1, tab1, t1, t2, t3, t4, t5, t6⟩ := C.try_ _ _ h11 (of_decide_eq_true h10)
  obtain ⟨u1, u2⟩ := C.top (by cases hM : M.fn with | none => rfl | some _ => rw [hM] at h12; exact nomatch (show false = true from h12))
  exact s_tryT ⟨u1, u2, by rw [C.N]; exact C.nd, by rw [C.N]; exact of_decide_eq_true h3, by show X.env.scope.names.lookup _ = _; rw [C.sc]; exact of_decide_eq_true h4, (nd_of h5).1, (nd_of h5).2, C.gl h6, (nd_of h7).1, t1, C.tk, t2, t3, ⟨by have := C.room.dp; omega, by have := C.room.un; omega⟩, C.gl h8, (nd_of h9).1, t4, t5, t6⟩
    fun W' pn xe tk po => ih_b0 M (.Ss b1) (X.tr pn xe) W' ⟨C.N, C.nd, C.sc, C.kind, C.fn, C.calm, C.room, C.guards, tk, po, C.con, C.free, C.fns, C.top, C.exc, C.try_⟩ h13
theorem sd_tupR (es : I) (ih_es : IHT g G call n es) : IHT g G call n (.tupR es) := by
  intro M nd X W C h
  obtain ⟨x, p1, m, p2, a, p3, p0, rfl, h⟩ := k_tupR_inv (k := fun x m a => glB M.sc x && glB M.sc m && decide (x = "tuple") && decide (m = "range") && g.free.contains x && g.free.contains m && mt g es M (.A [a])) h
  replace h : (glB M.sc x && glB M.sc m && decide (x = "tuple") && decide (m = "range") && g.free.contains x && g.free.contains m && mt g es M (.A [a])) = true := h
  simp only [Bool.and_eq_true] at h
  obtain ⟨⟨⟨⟨⟨⟨h1, h2⟩, h3⟩, h4⟩, h5⟩, h6⟩, h7⟩ := h
  obtain ⟨i1, i2⟩ := ih_es M (.A [a]) X W C h7
  exact ⟨e_tupR C.calm (of_decide_eq_true h3) (of_decide_eq_true h4) (C.gl h1) (C.gl h2) (C.free _ h5) (C.free _ h6) i1 i2, trivial⟩
theorem sd_tupR2 (es : I) (ih_es : IHT g G call n es) : IHT g G call n (.tupR2 es) := by
  intro M nd X W C h
  obtain ⟨x, p1, m, p2, a, b, p3, p0, rfl, h⟩ := k_tupR2_inv (k := fun x m a b => glB M.sc x && glB M.sc m && decide (x = "tuple") && decide (m = "range") && g.free.contains x && g.free.contains m && mt g es M (.A [a, b])) h
  replace h : (glB M.sc x && glB M.sc m && decide (x = "tuple") && decide (m = "range") && g.free.contains x && g.free.contains m && mt g es M (.A [a, b])) = true := h
  simp only [Bool.and_eq_true] at h
  obtain ⟨⟨⟨⟨⟨⟨h1, h2⟩, h3⟩, h4⟩, h5⟩, h6⟩, h7⟩ := h
  obtain ⟨i1, i2⟩ := ih_es M (.A [a, b]) X W C h7
  exact ⟨e_tupR2 C.calm (of_decide_eq_true h3) (of_decide_eq_true h4) (C.gl h1) (C.gl h2) (C.free _ h5) (C.free _ h6) i1 i2, trivial⟩
theorem sd_lstR (es : I) (ih_es : IHT g G call n es) : IHT g G call n (.lstR es) := by
  intro M nd X W C h
  obtain ⟨x, p1, m, p2, a, p3, p0, rfl, h⟩ := k_lstR_inv (k := fun x m a => glB M.sc x && glB M.sc m && decide (x = "list") && decide (m = "range") && g.free.contains x && g.free.contains m && mt g es M (.A [a])) h
  replace h : (glB M.sc x && glB M.sc m && decide (x = "list") && decide (m = "range") && g.free.contains x && g.free.contains m && mt g es M (.A [a])) = true := h
  simp only [Bool.and_eq_true] at h
  obtain ⟨⟨⟨⟨⟨⟨h1, h2⟩, h3⟩, h4⟩, h5⟩, h6⟩, h7⟩ := h
  obtain ⟨i1, i2⟩ := ih_es M (.A [a]) X W C h7
  exact ⟨e_lstR C.calm (of_decide_eq_true h3) (of_decide_eq_true h4) (C.gl h1) (C.gl h2) (C.free _ h5) (C.free _ h6) i1 i2, trivial⟩
theorem sd_lstR2 (es : I) (ih_es : IHT g G call n es) : IHT g G call n (.lstR2 es) := by
  intro M nd X W C h
  obtain ⟨x, p1, m, p2, a, b, p3, p0, rfl, h⟩ := k_lstR2_inv (k := fun x m a b => glB M.sc x && glB M.sc m && decide (x = "list") && decide (m = "range") && g.free.contains x && g.free.contains m && mt g es M (.A [a, b])) h
  replace h : (glB M.sc x && glB M.sc m && decide (x = "list") && decide (m = "range") && g.free.contains x && g.free.contains m && mt g es M (.A [a, b])) = true := h
  simp only [Bool.and_eq_true] at h
  obtain ⟨⟨⟨⟨⟨⟨h1, h2⟩, h3⟩, h4⟩, h5⟩, h6⟩, h7⟩ := h
  obtain ⟨i1, i2⟩ := ih_es M (.A [a, b]) X W C h7
  exact ⟨e_lstR2 C.calm (of_decide_eq_true h3) (of_decide_eq_true h4) (C.gl h1) (C.gl h2) (C.free _ h5) (C.free _ h6) i1 i2, trivial⟩
theorem sd_ret (a0 : I) (ih_a0 : IHT g G call n a0) : IHT g G call n (.ret a0) := by
  intro M nd X W C h
  obtain ⟨v, p0, rfl, h⟩ := k_ret_inv (k := fun v => mt g a0 M (.E v)) h
  replace h : (mt g a0 M (.E v)) = true := h
  exact s_ret (ih_a0 M (.E v) X W C h).1
theorem sd_retN   : IHT g G call n (.retN ) := by
  intro M nd X W C h
  obtain ⟨p0, rfl, h⟩ := k_retN_inv (k := true) h
  exact s_retN
theorem sd_ifS (c0 : I) (a0 : I) (b0 : I) (ih_c0 : IHT g G call n c0) (ih_a0 : IHT g G call n a0) (ih_b0 : IHT g G call n b0) : IHT g G call n (.ifS c0 a0 b0) := by
  intro M nd X W C h
  obtain ⟨c', a1, b1, p0, rfl, h⟩ := k_ifS_inv (k := fun c' a1 b1 => mt g c0 M (.T c') && mt g a0 M (.Ss a1) && mt g b0 M (.Ss b1)) h
  replace h : (mt g c0 M (.T c') && mt g a0 M (.Ss a1) && mt g b0 M (.Ss b1)) = true := h
  simp only [Bool.and_eq_true] at h
  exact s_if (ih_c0 M (.T c') X W C h.1.1).1 (ih_a0 M (.Ss a1) X W C h.1.2) (ih_b0 M (.Ss b1) X W C h.2)
theorem sd_forS (t0 : I) (it0 : I) (b0 : I) (ih_t0 : IHT g G call n t0) (ih_it0 : IHT g G call n it0) (ih_b0 : IHT g G call n b0) : IHT g G call n (.forS t0 it0 b0) := by
  intro M nd X W C h
  obtain ⟨tg, it', b1, p0, rfl, h⟩ := k_forS_inv (k := fun tg it' b1 => notSet it' && isSub (slots t0) M.is && mt g t0 M (.G tg) && mt g it0 M (.It tg it') && mt g b0 M (.Ss b1)) h
  replace h : (notSet it' && isSub (slots t0) M.is && mt g t0 M (.G tg) && mt g it0 M (.It tg it') && mt g b0 M (.Ss b1)) = true := h
  simp only [Bool.and_eq_true] at h
  obtain ⟨⟨⟨⟨h1, h2⟩, h3⟩, h4⟩, h5⟩ := h
  exact s_for C.po C.calm (sub_of h2) (ih_it0 M (.It tg it') X W C h4) (ih_t0 M (.G tg) X W C h3) (ih_b0 M (.Ss b1) X W C h5) (notSet_fold h1)
theorem sd_whl (c0 : I) (b0 : I) (ih_c0 : IHT g G call n c0) (ih_b0 : IHT g G call n b0) : IHT g G call n (.whl c0 b0) := by
  intro M nd X W C h
  obtain ⟨c', b1, p0, rfl, h⟩ := k_whl_inv (k := fun c' b1 => mt g c0 M (.T c') && mt g b0 M (.Ss b1)) h
  replace h : (mt g c0 M (.T c') && mt g b0 M (.Ss b1)) = true := h
  rw [Bool.and_eq_true] at h
  exact s_whl C.po (ih_c0 M (.T c') X W C h.1).1 (ih_b0 M (.Ss b1) X W C h.2)
theorem sd_brk   : IHT g G call n (.brk ) := by
  intro M nd X W C h
  obtain ⟨p0, rfl, h⟩ := k_brk_inv (k := true) h
  exact s_brk
theorem sd_cnt   : IHT g G call n (.cnt ) := by
  intro M nd X W C h
  obtain ⟨p0, rfl, h⟩ := k_cnt_inv (k := true) h
  exact s_cnt
theorem sd_pas   : IHT g G call n (.pas ) := by
  intro M nd X W C h
  obtain ⟨p0, rfl, h⟩ := k_pas_inv (k := true) h
  exact s_pas
theorem sound (g : GT) (G : Sig) (call : Nat → List Sl → Res (Sl × List Sl)) (n : Nat) (ie : I) : IHT g G call n ie := by
  induction ie with
  | var i  => exact sd_var i 
  | mov i  => exact sd_mov i 
  | cN   => exact sd_cN  
  | cB b0  => exact sd_cB b0 
  | cI i  => exact sd_cI i 
  | cS s0  => exact sd_cS s0 
  | bty n0  => exact sd_bty n0 
  | glo k  => exact sd_glo k 
  | nilE   => exact sd_nilE  
  | argN i es ih_es => exact sd_argN i es ih_es
  | consE a0 es ih_a0 ih_es => exact sd_consE a0 es ih_a0 ih_es
  | tupE es ih_es => exact sd_tupE es ih_es
  | lstE es ih_es => exact sd_lstE es ih_es
  | bop op es ih_es => exact sd_bop op es ih_es
  | cop op es ih_es => exact sd_cop op es ih_es
  | uop op es ih_es => exact sd_uop op es ih_es
  | ixe es ih_es => exact sd_ixe es ih_es
  | sle lo hi es ih_es => exact sd_sle lo hi es ih_es
  | blt bb es ih_es => exact sd_blt bb es ih_es
  | sos es ih_es => exact sd_sos es ih_es
  | call f es ih_es => exact sd_call f es ih_es
  | tn i  => exact sd_tn i 
  | tv a0 ih_a0 => exact sd_tv a0 ih_a0
  | tcp op es ih_es => exact sd_tcp op es ih_es
  | tch o1 o2 a0 b0 c0 ih_a0 ih_b0 ih_c0 => exact sd_tch o1 o2 a0 b0 c0 ih_a0 ih_b0 ih_c0
  | tnot t0 ih_t0 => exact sd_tnot t0 ih_t0
  | tand a0 b0 ih_a0 ih_b0 => exact sd_tand a0 b0 ih_a0 ih_b0
  | tor a0 b0 ih_a0 ih_b0 => exact sd_tor a0 b0 ih_a0 ih_b0
  | vand a0 b0 ih_a0 ih_b0 => exact sd_vand a0 b0 ih_a0 ih_b0
  | vor a0 b0 ih_a0 ih_b0 => exact sd_vor a0 b0 ih_a0 ih_b0
  | vnot a0 ih_a0 => exact sd_vnot a0 ih_a0
  | ife c0 a0 b0 ih_c0 ih_a0 ih_b0 => exact sd_ife c0 a0 b0 ih_c0 ih_a0 ih_b0
  | chn o1 o2 a0 b0 c0 ih_a0 ih_b0 ih_c0 => exact sd_chn o1 o2 a0 b0 c0 ih_a0 ih_b0 ih_c0
  | itV a0 ih_a0 => exact sd_itV a0 ih_a0
  | itR es ih_es => exact sd_itR es ih_es
  | itR2 es ih_es => exact sd_itR2 es ih_es
  | tN i  => exact sd_tN i 
  | tT ts ih_ts => exact sd_tT ts ih_ts
  | tNil   => exact sd_tNil  
  | tCons t0 ts ih_t0 ih_ts => exact sd_tCons t0 ts ih_t0 ih_ts
  | ifN   => exact sd_ifN  
  | ifC c0 ih_c0 => exact sd_ifC c0 ih_c0
  | lc own tg0 it0 ifs0 x0 ih_tg0 ih_it0 ih_ifs0 ih_x0 => exact sd_lc own tg0 it0 ifs0 x0 ih_tg0 ih_it0 ih_ifs0 ih_x0
  | lc2 own own1 tg0 it0 ifs0 tg1 it1 ifs1 x0 ih_tg0 ih_it0 ih_ifs0 ih_tg1 ih_it1 ih_ifs1 ih_x0 => exact sd_lc2 own own1 tg0 it0 ifs0 tg1 it1 ifs1 x0 ih_tg0 ih_it0 ih_ifs0 ih_tg1 ih_it1 ih_ifs1 ih_x0
  | lcO own i tg0 ifs0 x0 ih_tg0 ih_ifs0 ih_x0 => exact sd_lcO own i tg0 ifs0 x0 ih_tg0 ih_ifs0 ih_x0
  | forO i t0 b0 ih_t0 ih_b0 => exact sd_forO i t0 b0 ih_t0 ih_b0
  | skip   => exact sd_skip  
  | seq a0 b0 ih_a0 ih_b0 => exact sd_seq a0 b0 ih_a0 ih_b0
  | exs a0 ih_a0 => exact sd_exs a0 ih_a0
  | asg t0 a0 ih_t0 ih_a0 => exact sd_asg t0 a0 ih_t0 ih_a0
  | aug i op a0 ih_a0 => exact sd_aug i op a0 ih_a0
  | app i a0 ih_a0 => exact sd_app i a0 ih_a0
  | sti i k0 a0 ih_k0 ih_a0 => exact sd_sti i k0 a0 ih_k0 ih_a0
  | raiseS x0  => exact sd_raiseS x0 
  | tryA i x0 b0 ih_b0 => exact sd_tryA i x0 b0 ih_b0
  | tryT i x0 s0 b0 ih_b0 => exact sd_tryT i x0 s0 b0 ih_b0
  | tupR es ih_es => exact sd_tupR es ih_es
  | tupR2 es ih_es => exact sd_tupR2 es ih_es
  | lstR es ih_es => exact sd_lstR es ih_es
  | lstR2 es ih_es => exact sd_lstR2 es ih_es
  | ret a0 ih_a0 => exact sd_ret a0 ih_a0
  | retN   => exact sd_retN  
  | ifS c0 a0 b0 ih_c0 ih_a0 ih_b0 => exact sd_ifS c0 a0 b0 ih_c0 ih_a0 ih_b0
  | forS t0 it0 b0 ih_t0 ih_it0 ih_b0 => exact sd_forS t0 it0 b0 ih_t0 ih_it0 ih_b0
  | whl c0 b0 ih_c0 ih_b0 => exact sd_whl c0 b0 ih_c0 ih_b0
  | brk   => exact sd_brk  
  | cnt   => exact sd_cnt  
  | pas   => exact sd_pas  
  | mth m es ih => intro M nd X W C h; exact nomatch (show false = true from h)
end
end RF


namespace RF
open PySem PySem.Spec PyProof.Rows L2
/-! ### defs -/
section
variable {P : Program} {w : World} {K : PySem.W.Frag} {mg : Str → Option Value} {base : Heap}
/-- a def keeps its promise, by its body's walk -/
theorem fnG {x qual : Str} {st : Stmt} {f : Addr} {fd : FuncData} {N ps : List Str} {k : Nat} {sp : Sp} (F : Fun K x qual st f fd) (S : FnScope N ps (defScope st)) (len : ∀ vs H Q E, sp vs H Q E → vs.length = ps.length)
    (hb : ∀ (cdv : Value) (A : Around) (outer : List PySem.Env) (s : Shared) (H : Hp) (vs : List V) (Q : VK) (E : XK), Room k (A.deeper (envOfC qual (defScope st) s.heap.objs.size f cdv)) → A.guards = some [] → sp vs H Q E →
      ∃ t, PSs (cxOf (CXa P w) P w K mg base N qual (defScope st) f cdv A outer s H E) (defBody st) t ∧ t { nx := fun _ H' => Q .non H', rt := Q } (L2.start N vs) H) : FnG P w K mg base (k + 1) f fd ps sp := by
  obtain ⟨oc, od, kV, doc, pm, an, cdv, ct, osl, rfl, lk, hcd⟩ := F.ex
  refine ⟨len, fun A outer s H args us vs Q E hr hgu e0 hbd r hsp => ?_⟩
  have old : ∀ b o, base.get? b = some o → s.heap.get? b = some o := fun b o e => (e0.bs b o e).1
  have KX := e0.mod.kin.keeps old
  have lim := e0.mod.nolimit.keeps old
  refine codeAny_call_function hr.depth (KX _ _ lk) rfl S.co S.gen rfl (PySem.W.codeRec_of KX hcd) (hbd _ _ _ _ ?_)
  refine wpAny_newFunctionEnv_cells S.kind (fun y hy => ?_) fun env he s1 x => ?_
  · rcases S.par y.1 (List.of_mem_zip hy).1 with q | q
    · exact .inl q
    · exact .inr ⟨q, PySem.W.cellsFrom_some _ _ _ (.inl q)⟩
  subst he
  refine ⟨lim.keeps x.toInCall.keep, codeAny_func ?_⟩
  obtain ⟨t, ht, hq⟩ := hb cdv A outer s H vs Q E (hr.deeper _) hgu hsp
  have I := inv_start (CX := CXa P w) (E := E) (f := f) (cd := cdv) (qual := qual) S hr.hd e0 (len _ _ _ _ hsp) r x
  refine wpAny_mono (ht.run [] s1 _ H _ I hq) (fun fl s' hs => ?_) fun _ _ hs => hs
  match fl, hs with
  | .ret u, ⟨v, σ', H', J, rv, q⟩ => exact ⟨v, H', J.os, J.bare, J.base, J.hok, rv, q⟩
  | .next, ⟨σ', H', J, q⟩ => exact ⟨V.non, H', J.os, J.bare, J.base, J.hok, rfl, q⟩
  | .brk, ⟨_, _, _, q⟩ => exact q.elim
  | .cont, ⟨_, _, _, q⟩ => exact q.elim
end
/-! ### a def's names at the start and at the end -/
section
variable {K : PySem.W.Frag} {Z Zf : Addr → Prop} {is : List Nat} {ss : List Sl} {vs : List V} {H H' : Hp} {e' : Env} {σ' : St}
theorem app_get {α : Type} {l m : List α} {i : Nat} {x : α} (h : (l ++ m)[i]? = some x) : l[i]? = some x ∨ (l.length ≤ i ∧ x ∈ m) := by
  by_cases hi : i < l.length
  · rw [List.getElem?_append_left hi] at h; exact .inl h
  · have hi' : l.length ≤ i := Nat.le_of_not_lt hi
    rw [List.getElem?_append_right hi'] at h
    exact .inr ⟨hi', List.mem_of_getElem? h⟩
theorem own_pad {n m : Nat} {a : Addr} (hl : ss.length = vs.length) (h : Own (ss ++ List.replicate n .un) (vs.map some ++ List.replicate m none) a) : Own ss (vs.map some) a := by
  obtain ⟨i, d, h1, h2⟩ := h
  rcases app_get h1 with h1 | ⟨_, h1⟩
  · have hi := lt_of_get h1
    rw [List.getElem?_append_left (by rw [List.length_map, ← hl]; exact hi)] at h2
    exact ⟨i, d, h1, h2⟩
  · cases List.eq_of_mem_replicate h1
theorem EnvOk.pad {n m : Nat} (E : EnvOk K Z ss (vs.map some) H) (hl : ss.length = vs.length) (hn : n = m) : EnvOk K Z (ss ++ List.replicate n .un) (vs.map some ++ List.replicate m none) H := by
  have fr : ∀ b o, Free Z ss (vs.map some) b → H b = some o → Free Z (ss ++ List.replicate n .un) (vs.map some ++ List.replicate m none) b ∧ H b = some o := fun b o f x => ⟨⟨f.1, fun z => f.2 (own_pad hl z)⟩, x⟩
  have left : ∀ {i : Nat}, i < ss.length → (vs.map some ++ List.replicate m none)[i]? = (vs.map some)[i]? := fun {i} hi => List.getElem?_append_left (by rw [List.length_map, ← hl]; exact hi)
  refine ⟨by simp [hl, hn], fun i d h => ?_, fun i d h => ?_, fun i j d d' a h1 h2 h3 h4 => ?_, E.dom⟩
  · rcases app_get h with h | ⟨_, h⟩
    · obtain ⟨v, h1, h2⟩ := E.sh i d h
      exact ⟨v, by rw [left (lt_of_get h)]; exact h1, h2.mono fr⟩
    · cases List.eq_of_mem_replicate h
  · rcases app_get h with h | ⟨_, h⟩
    · obtain ⟨v, h1, h2, h3⟩ := E.ow i d h
      exact ⟨v, by rw [left (lt_of_get h)]; exact h1, h2, h3.mono fr fun _ x => x⟩
    · cases List.eq_of_mem_replicate h
  · rcases app_get h1 with h1 | ⟨_, h1⟩
    · rcases app_get h2 with h2 | ⟨_, h2⟩
      · rw [left (lt_of_get h1)] at h3
        rw [left (lt_of_get h2)] at h4
        exact E.inj i j d d' a h1 h2 h3 h4
      · cases List.eq_of_mem_replicate h2
    · cases List.eq_of_mem_replicate h1
theorem outs_len : ∀ (fix : List Bool) (ss : List Sl) (e : Env), (outs fix ss e).length = ss.length
  | [], ss, e => by unfold outs; simp
  | b :: fix, [], e => by cases b <;> unfold outs <;> simp
  | true :: fix, .ow _ :: ss, _ :: e => by unfold outs; simp [outs_len fix ss e]
  | false :: fix, .ow _ :: ss, _ :: e => by unfold outs; simp [outs_len fix ss e]
  | b :: fix, .un :: ss, _ :: e => by cases b <;> (unfold outs; simp [outs_len fix ss e])
  | b :: fix, .mv :: ss, _ :: e => by cases b <;> (unfold outs; simp [outs_len fix ss e])
  | b :: fix, .sh _ :: ss, _ :: e => by cases b <;> (unfold outs; simp [outs_len fix ss e])
  | b :: fix, s :: ss, [] => by cases b <;> cases s <;> (unfold outs; simp)
/-- what is told of a parameter at the end -/
def OutAt (fix : List Bool) (e : Env) (s0 s : Sl) (k : Nat) : Prop := (s = s0 ∧ ∀ d : D, s0 ≠ .ow d) ∨ (∃ d0 : D, s0 = .ow d0 ∧ (s = .mv ∨ (fix[k]? = some true ∧ e[k]? = some s)))
theorem outs_map : ∀ {ss : List Sl} {k : Nat} {s : Sl} {fix : List Bool} {e : Env}, (ss.map fun s => match s with | .ow _ => Sl.mv | s => s)[k]? = some s → ∃ s0, ss[k]? = some s0 ∧ OutAt fix e s0 s k := fun {ss k s fix e} h => by
  rw [List.getElem?_map] at h
  cases hs : ss[k]? with
  | none => rw [hs] at h; cases h
  | some s0 =>
    rw [hs] at h
    refine ⟨s0, rfl, ?_⟩
    cases s0 with
    | ow d => cases h; exact .inr ⟨d, rfl, .inl rfl⟩
    | _ => cases h; exact .inl ⟨rfl, fun _ q => nomatch q⟩
theorem outs_at : ∀ (fix : List Bool) (ss : List Sl) (e : Env) {k : Nat} {s : Sl}, (outs fix ss e)[k]? = some s → ∃ s0, ss[k]? = some s0 ∧ OutAt fix e s0 s k
  | [], ss, e, k, s, h => by unfold outs at h; exact outs_map h
  | b :: fix, [], e, k, s, h => by cases b <;> unfold outs at h <;> exact outs_map h
  | b :: fix, s1 :: ss, [], k, s, h => by cases b <;> cases s1 <;> (unfold outs at h; exact outs_map h)
  | b :: fix, s1 :: ss, s2 :: e, 0, s, h => by
    refine ⟨s1, rfl, ?_⟩
    cases s1 with
    | ow d =>
      cases b with
      | true =>
        unfold outs at h
        have h' : s2 = s := by simpa using h
        exact .inr ⟨d, rfl, .inr ⟨rfl, by simp [h']⟩⟩
      | false =>
        unfold outs at h
        have h' : Sl.mv = s := by simpa using h
        exact .inr ⟨d, rfl, .inl h'.symm⟩
    | _ =>
      refine .inl ⟨?_, fun _ q => nomatch q⟩
      cases b <;> (unfold outs at h; simpa using h.symm)
  | b :: fix, s1 :: ss, s2 :: e, k + 1, s, h => by
    have h' : (outs fix ss e)[k]? = some s := by
      cases b <;> cases s1 <;> (unfold outs at h; simpa using h)
    obtain ⟨s0, q1, q2⟩ := outs_at fix ss e h'
    refine ⟨s0, by simpa using q1, ?_⟩
    rcases q2 with q2 | ⟨d0, q2, q3⟩
    · exact .inl q2
    · exact .inr ⟨d0, q2, q3.imp id fun q => ⟨by simpa using q.1, by simpa using q.2⟩⟩
/-- the end of a body, told to the caller -/
theorem run_out {fix : List Bool} {n m : Nat} (hl : ss.length = vs.length) (hfix : ∀ k : Nat, fix[k]? = some true → k ∉ is) (E : EnvOk K Z ss (vs.map some) H)
    (T : Run K Z Zf is (ss ++ List.replicate n .un) (vs.map some ++ List.replicate m none) H e' σ' H') :
    Step K Z Zf ss (vs.map some) H (outs fix ss e') H' ∧ ∀ a, Own (outs fix ss e') (vs.map some) a → Own e' σ' a := by
  have pads : ∀ {a : Addr}, Own ss (vs.map some) a → Own (ss ++ List.replicate n .un) (vs.map some ++ List.replicate m none) a := fun {a} ⟨i, d, h1, h2⟩ =>
    ⟨i, d, by rw [List.getElem?_append_left (lt_of_get h1)]; exact h1, by rw [List.getElem?_append_left (by rw [List.length_map, ← hl]; exact lt_of_get h1)]; exact h2⟩
  -- a parameter that is told by the end's names holds what it held
  have same : ∀ {k : Nat} {s0 : Sl}, ss[k]? = some s0 → fix[k]? = some true → σ'[k]? = (vs.map some)[k]? := fun {k s0} h q => by
    rw [T.same k (hfix k q), List.getElem?_append_left (by rw [List.length_map, ← hl]; exact lt_of_get h)]
  have own1 : ∀ a, Own (outs fix ss e') (vs.map some) a → Own ss (vs.map some) a ∧ Own e' σ' a := fun a ⟨k, d, h1, h2⟩ => by
    obtain ⟨s0, q1, q2⟩ := outs_at fix ss e' h1
    rcases q2 with ⟨q2, q3⟩ | ⟨d0, q2, q3⟩
    · exact absurd q2.symm (q3 d)
    · rcases q3 with q3 | ⟨q3, q4⟩
      · exact nomatch q3
      · exact ⟨⟨k, d0, by rw [q1, q2], h2⟩, k, d, q4, by rw [same q1 q3]; exact h2⟩
  have fr0 : ∀ b o, Free Z ss (vs.map some) b → H b = some o → Free Zf (outs fix ss e') (vs.map some) b ∧ H' b = some o := fun b o f x => by
    refine ⟨⟨fun z => ?_, fun z => f.2 (own1 b z).1⟩, T.keep b o x fun z => f.2 (own_pad hl z)⟩
    rcases T.new b z with z | z | z
    · exact f.1 z
    · rw [x] at z; cases z
    · exact f.2 (own_pad hl z)
  have fr1 : ∀ b o, Free Zf e' σ' b → H' b = some o → Free Zf (outs fix ss e') (vs.map some) b ∧ H' b = some o := fun b o f x => ⟨⟨f.1, fun z => f.2 (own1 b z).2⟩, x⟩
  refine ⟨⟨⟨by rw [outs_len, List.length_map, hl], fun k d h => ?_, fun k d h => ?_, fun j k d d' a h1 h2 h3 h4 => ?_, T.env.dom⟩, fun a o x n => T.keep a o x fun z => n (own_pad hl z), fun a z => (own1 a z).1, T.zsub, fun a z => ?_⟩, fun a z => (own1 a z).2⟩
  · obtain ⟨s0, q1, q2⟩ := outs_at fix ss e' h
    rcases q2 with ⟨q2, q3⟩ | ⟨d0, q2, q3⟩
    · subst q2
      obtain ⟨v, h1, h2⟩ := E.sh k d q1
      exact ⟨v, h1, h2.mono fr0⟩
    · rcases q3 with q3 | ⟨q3, q4⟩
      · exact nomatch q3
      · obtain ⟨v, h1, h2⟩ := T.env.sh k d q4
        rw [same q1 q3] at h1
        exact ⟨v, h1, h2.mono fr1⟩
  · obtain ⟨s0, q1, q2⟩ := outs_at fix ss e' h
    rcases q2 with ⟨q2, q3⟩ | ⟨d0, q2, q3⟩
    · exact absurd q2.symm (q3 d)
    · rcases q3 with q3 | ⟨q3, q4⟩
      · exact nomatch q3
      · obtain ⟨v, h1, h2, h3⟩ := T.env.ow k d q4
        rw [same q1 q3] at h1
        exact ⟨v, h1, h2, h3.mono fr1 fun _ x => x⟩
  · obtain ⟨s0, q1, q2⟩ := outs_at fix ss e' h1
    obtain ⟨s1, p1, p2⟩ := outs_at fix ss e' h2
    rcases q2 with ⟨q2, q3⟩ | ⟨d0, q2, q3⟩
    · exact absurd q2.symm (q3 d)
    · rcases p2 with ⟨p2, p3⟩ | ⟨d1, p2, p3⟩
      · exact absurd p2.symm (p3 d')
      · exact E.inj j k d0 d1 a (by rw [q1, q2]) (by rw [p1, p2]) h3 h4
  · rcases T.new a z with z | z | z
    · exact .inl z
    · exact .inr (.inl z)
    · exact .inr (.inr (own_pad hl z))
end
/-! ### all defs at once -/
/-- a def's text and its I -/
structure DefOk (g : GT) (G : Sig) (F : FDef) (st : Stmt) (N ps : List Str) (is : List Nat) : Prop where
  sc : FnScope N ps (defScope st)
  np : ps.length = F.np
  ns : N.length = F.ns
  fix : ∀ k : Nat, F.fix[k]? = some true → k ∉ is
  mt : mt g F.body ⟨N, defScope st, none, is⟩ (.Ss (defBody st)) = true
structure Tops (P : Program) (w : World) (K : PySem.W.Frag) (mg : Str → Option Value) (g : GT) (G : Sig) (fs : FS) : Prop where
  con : ∀ (k : Nat) (x : Str), g.con.lookup k = some x → ∃ d u v, G.con.lookup k = some d ∧ mg x = some u ∧ RelV v u ∧ ∀ ok H, Rep K ok H v d
  free : ∀ x, g.free.contains x = true → mg x = none
  defs : ∀ (f : Nat) (x : Str) (np : Nat), g.fns.lookup f = some (x, np) → ∃ fa fd qual st F N ps is, mg x = some (.ref fa) ∧ Fun K x qual st fa fd ∧ Binds K fd ps [] ∧ fs.lookup f = some F ∧ F.np = np ∧ DefOk g G F st N ps is
  exc : ∀ x, g.exc.contains x = true → ∃ C, mg x = some (.ref C) ∧ Exc1 K C
  try_ : ∀ x y, g.par.contains x = true → g.tell = some y → ∃ (Pa f : Addr) (fd : FuncData) (tab : Addr → Str → Prop), mg x = some (.ref Pa) ∧ TryOk K mg G x Pa tab ∧ (∀ base, CFn P w K mg base f fd tab) ∧ mg y = some (.ref f) ∧ PySem.W.keepIn K (.ref f) = true ∧ Binds K fd [("e" : Str)] []
theorem run_ok {P : Program} {w : World} {K : PySem.W.Frag} {mg : Str → Option Value} {g : GT} {G : Sig} {fs : FS} (T : Tops P w K mg g G fs) (base : Heap) : ∀ (n f : Nat) (x : Str) (np : Nat), g.fns.lookup f = some (x, np) →
    ∃ fa fd ps, mg x = some (.ref fa) ∧ PySem.W.keepIn K (.ref fa) = true ∧ Binds K fd ps [] ∧ ps.length = np ∧ FnG P w K mg base n fa fd ps (spF K mg ps (run G fs n f)) := by
  intro n
  induction n with
  | zero =>
    intro f x np h
    obtain ⟨fa, fd, qual, st, F, N, ps, is, h1, h2, h3, h4, h5, h6⟩ := T.defs f x np h
    exact ⟨fa, fd, ps, h1, h2.kp, h3, h6.np.trans h5, fun vs H Q E q => q.1, fun A outer s H args us vs Q E _ _ _ _ _ ⟨_, _, _, _, q⟩ => q.elim⟩
  | succ n ih =>
    intro f x np h
    obtain ⟨fa, fd, qual, st, F, N, ps, is, h1, h2, h3, h4, h5, h6⟩ := T.defs f x np h
    refine ⟨fa, fd, ps, h1, h2.kp, h3, h6.np.trans h5, fnG h2 h6.sc (fun vs H Q E q => q.1) fun cdv A outer s H vs Q E hr hgu ⟨hvl, Z, ss, E0, q⟩ => ?_⟩
    have C : Cok g G (run G fs n) n (cxOf (CXa P w) P w K mg base N qual (defScope st) fa cdv A outer s H E) ⟨N, defScope st, none, is⟩ (fun cls d _ H => E cls d H) :=
      ⟨rfl, h6.sc.nd, rfl, h6.sc.kind, fun _ _ => rfl, rfl, hr, hgu, takes_of rfl rfl rfl rfl, passes_of rfl, T.con, T.free, ih, fun _ => ⟨rfl, rfl⟩, T.exc, fun x y h1 h2 => by
        obtain ⟨Pa, f, fd, tab, t1, t2, t3, t4, t5, t6⟩ := T.try_ x y h1 h2
        exact ⟨Pa, f, fd, tab, t1, t2, t3 base, t4, t5, t6⟩⟩
    have S := sound g G (run G fs n) n F.body _ (.Ss (defBody st)) _ _ C h6.mt
    have hss : ss.length = vs.length := by have := E0.len; rwa [List.length_map] at this
    have hlen : ss.length = F.np := by rw [hss, hvl, h6.np]
    refine ⟨_, S, Z, ss ++ List.replicate (F.ns - F.np) .un, ?_, ?_⟩
    · exact E0.pad hss (by rw [hvl, h6.np, h6.ns])
    · unfold run at q
      rw [h4] at q
      simp only [hlen, if_true] at q
      show SW K Z is (ss ++ List.replicate (F.ns - F.np) .un) (L2.start N vs) H (wnOf mg fun cls d _ H => E cls d H) (flOf (ev G (run G fs n) F.body (ss ++ List.replicate (F.ns - F.np) .un))) { nx := fun _ H' => Q .non H', rt := Q }
      cases hev : ev G (run G fs n) F.body (ss ++ List.replicate (F.ns - F.np) .un) with
      | bad => rw [hev] at q; exact q
      | ex c =>
        rw [hev] at q
        exact fun σ' H' k _ _ => q H' fun a o y n => k a o y fun z => n (own_pad hss z)
      | ok p =>
        obtain ⟨o, e'⟩ := p
        rw [hev] at q
        cases o with
        | fl fl =>
          cases fl with
          | nx =>
            intro σ' H' R
            obtain ⟨S1, _⟩ := run_out hss h6.fix E0 R
            exact q .non H' S1.zsh .non
          | rt s =>
            intro v σ' H' R r
            obtain ⟨S1, o1⟩ := run_out hss h6.fix E0 R
            refine q v H' S1 ?_
            cases s with
            | sh d => exact (show Rep K _ H' v d from r).mono fun b o f x => ⟨⟨f.1, fun z => f.2 (o1 b z)⟩, x⟩
            | ow d =>
              obtain ⟨a, e1, k1, k2, k3⟩ := r
              exact ⟨a, e1, k1, fun z => k2 (o1 a z), k3.mono (fun b o f x => ⟨⟨f.1, fun z => f.2 (o1 b z)⟩, x⟩) fun _ x => x⟩
            | un => exact r.elim
            | mv => exact r.elim
          | bk => exact q.elim
          | ct => exact q.elim
        | _ => exact q.elim
end RF


namespace RF
open PySem PySem.Spec PyProof.Rows L2
/-! ### the end: a law's row from what its def means -/
/-- nothing is tracked but the script, if it is no object of the module -/
def scrH (K : PySem.W.Frag) (a : Addr) (o : Obj) (xs : List V) : Hp := fun b => if b = a ∧ K.lookup a = none then some (.frz o (.lst xs)) else none
theorem scrH_some {K : PySem.W.Frag} {a b : Addr} {o : Obj} {xs : List V} {u : HO} (h : scrH K a o xs b = some u) : b = a ∧ K.lookup a = none ∧ u = .frz o (.lst xs) := by
  unfold scrH at h
  by_cases c : b = a ∧ K.lookup a = none
  · rw [if_pos c] at h; cases h; exact ⟨c.1, c.2, rfl⟩
  · rw [if_neg c] at h; cases h
theorem law_end {P : Program} {w : World} {K : PySem.W.Frag} {mg mb : Str → Option Value} {k : Nat} {fa a : Addr} {cf : List Sl → Res (Sl × List Sl)} {s1 : Shared} {us : List Value} {ns : List Int}
    (KX : K.In s1.heap) (g1 : s1.heap.Ns mainGlobals mg) (g2 : s1.heap.Ns builtinsNs mb) (g3 : ∀ x : Str, x ≠ "__name__" → mb x = bootBuiltins x) (nl : s1.heap.NoLimit) (gens : s1.gens = #[])
    (ha : s1.heap.get? a = some { cls := .type "list", data := .seq us.toArray }) (hi : IntsAre us ns) (hz : ns.length ≤ sizeLine) (hr : Room k callerA)
    (F : ∀ base : Heap, ∃ fd x, FnG P w K mg base k fa fd [x] (spF K mg [x] cf) ∧ Binds K fd [x] []) (math : ∃ os, cf [.sh (.lst (ns.map D.int))] = .ok (.sh (.bl true), os)) :
    codeAny (model P w) callerA (.call (.ref fa) ⟨[.ref a], []⟩) (fun r s' => r = .ok (.ret (.bool true)) ∧ OldK s1.heap s'.heap ∧ s'.os = s1.os ∧ AllBare s'.gens) s1 := by
  have rv := L2.vals_ints hi
  have hlen : us.length = ns.length := hi.length
  let ob : Obj := { cls := .type "list", data := .seq us.toArray }
  let H : Hp := scrH K a ob (ns.map V.int)
  have inside : ∀ {b : Addr} {u : HO}, H b = some u → b = a ∧ K.lookup a = none ∧ u = .frz ob (.lst (ns.map V.int)) := fun h => scrH_some h
  have hok : HOk P w H s1.heap := fun b u h => by
    obtain ⟨rfl, _, rfl⟩ := inside h
    exact ⟨ha, by simpa using hz, us, _, rv, ha⟩
  have out : ∀ {b : Addr} {o : Obj}, s1.heap.get? b = some o → o ≠ ob → H b = none := fun {b o} e n => by
    cases q : H b with
    | none => rfl
    | some u =>
      obtain ⟨rfl, _, _⟩ := inside q
      rw [ha] at e
      exact absurd (Option.some.inj e).symm n
  have nsB : ∀ {b : Addr} {m : Str → Option Value}, s1.heap.Ns b m → (hidT s1.heap H).Ns b m := fun {b m} ⟨o, es, ep, e, d, r⟩ => by
    refine ⟨o, es, ep, hidT_get e (out e fun q => ?_), d, r⟩
    rw [q] at d
    exact nomatch d
  have inB : K.In (hidT s1.heap H) := fun b o e => hidT_get (KX b o e) (by
    cases q : H b with
    | none => rfl
    | some u =>
      obtain ⟨rfl, n, _⟩ := inside q
      rw [n] at e; cases e)
  have mod : Mod K mg (hidT s1.heap H) := ⟨inB, nsB g1, ⟨mb, nsB g2, g3⟩, nl.imp fun _ q => ⟨nsB q.1, q.2⟩⟩
  have nofr : ∀ b, b ∈ frs ([] : List PySem.Env) → H b = none := fun b hb => by simp [frs] at hb
  have e0 : Env0 P w K mg (hidT s1.heap H) callerA [] s1 H := ⟨rfl, mod, fun _ _ e => of_hidT e, by rw [hidT_size]; exact Nat.le_refl _, trivial, nofr, hok, .of_eq gens⟩
  have hS : Rep K (Free (fun _ => False) [Sl.sh (.lst (ns.map D.int))] [some (.ref a)]) H (.ref a) (.lst (ns.map D.int)) := by
    refine .lst ?_ (ints_reps ns)
    cases q : K.lookup a with
    | none =>
      refine .inl ⟨.inr ⟨ob, if_pos ⟨rfl, q⟩⟩, fun z => z, fun ⟨i, d, h1, _⟩ => ?_⟩
      cases i with
      | zero => cases h1
      | succ i => simp at h1
    | some o =>
      have e := KX a o q
      rw [ha] at e
      cases e
      exact .inr (.inr ⟨_, us.toArray, _, q, rfl, rfl, rfl, by simpa [hlen] using hz, by simpa using rv⟩)
  obtain ⟨fd, x, FF, hb⟩ := F (hidT s1.heap H)
  have bind : BindsTo s1 fd ⟨[.ref a], []⟩ [(x, .ref a)] := by simpa using hb s1 [.ref a] KX rfl
  have hsp : spF K mg [x] cf [.ref a] H (fun v _ => v = .bl true) fun _ _ _ => False := by
    refine ⟨rfl, fun _ => False, [.sh (.lst (ns.map D.int))], ⟨rfl, fun i d h => ?_, fun i d h => ?_, fun i j d d' a h => ?_, fun _ z => z.elim⟩, ?_⟩
    · cases i with
      | zero => cases h; exact ⟨_, rfl, hS⟩
      | succ i => simp at h
    · cases i with
      | zero => cases h
      | succ i => simp at h
    · cases i with
      | zero => cases h
      | succ i => simp at h
    · obtain ⟨os, e⟩ := math
      rw [e]
      intro v H' S r
      have r' : Rep K _ H' v (.bl true) := r
      cases r'
      rfl
  refine codeAny_mono (FF.run callerA [] s1 H ⟨[.ref a], []⟩ [.ref a] [.ref a] _ _ hr rfl e0 bind (.cons rfl .nil) hsp) ?_
  intro r s' h
  match r, h with
  | .error e, ⟨_, _, _, _, _, _, _, _, _, _, _, _, q, _⟩ => exact q.elim
  | .ok .next, h => exact h.elim
  | .ok .brk, h => exact h.elim
  | .ok .cont, h => exact h.elim
  | .ok (.ret u), ⟨v, H', os, bare, un, hok', r', q⟩ =>
    have q' : v = .bl true := q
    subst q'
    have r2 : u = Value.bool true := r'
    subst r2
    refine ⟨rfl, OldK.of_keep fun b o e => ?_, os, bare⟩
    cases q : H b with
    | none => exact un.keep b o e q (by simp [frs]) (by simp)
    | some u =>
      obtain ⟨rfl, _, rfl⟩ := inside q
      have f2 := un.frzs _ _ _ q
      obtain ⟨y, _⟩ := hok' _ _ f2
      rw [ha] at e
      cases e
      exact y
/-- the row of a law whose def, by its meaning, gives True for every script -/
theorem walkG {l : PySem.W.OpenLaw} {q : Program} {loose : List Str} {XP : (Str → Option Value) → Heap → Prop} {YP : World → Heap → Prop} {d : DefRec} {K : Params → PySem.W.Frag} {g : GT} {G : Sig} {fs : FS} {n li : Nat}
    (hn : l.most = some 63) (hdf : d.params.defaults = []) (hr : Room n callerA) (hY : ∀ (w : World) (h : Heap), YP w h → (K w.params).In h) (hli : g.fns.lookup li = some (d.name, 1))
    (T : ∀ (w : World) (mg : Str → Option Value) (h : Heap), (K w.params).In h → h.Ns mainGlobals mg → Tops l.prog w (K w.params) mg g G fs)
    (math : ∀ ns : List Int, ns.length ≤ 63 → ∃ os, run G fs n li [.sh (.lst (ns.map D.int))] = .ok (.sh (.bl true), os)) : PySem.W.WalkO q loose XP YP l.row.toRowW d [] (fun f vs => PySem.call f vs) := by
  refine Att.attach_call hn hdf fun w s₀ s₁ mg mb fa o pm cd doc a vs ns Gd Y ho hd hcd hmg hobj hints hlen hg => ?_
  have KX := hY w _ Y
  have T0 := T w mg _ KX Gd.T.g
  refine law_end (k := n) (cf := run G fs n li) KX Gd.T.g Gd.T.b Gd.T.builtins Gd.T.nolimit hg hobj hints (Nat.le_trans hlen (by decide)) hr (fun base => ?_) (math ns hlen)
  obtain ⟨fa2, fd2, ps2, r1, r2, r3, r4, r5⟩ := run_ok T0 base n li d.name 1 hli
  rw [hmg] at r1
  cases r1
  match ps2, r4, r3, r5 with
  | [x], _, r3, r5 => exact ⟨fd2, x, r5, r3⟩
/-! ### for the text of a law -/
theorem fix_of {fix : List Bool} {is : List Nat} (h : (is.all fun k => decide (fix[k]? ≠ some true)) = true) : ∀ k : Nat, fix[k]? = some true → k ∉ is := fun k e m => of_decide_eq_true (List.all_eq_true.mp h k m) e
theorem free_nil {mg : Str → Option Value} : ∀ x ∈ ([] : List Str), mg x = none := fun _ h => nomatch h
theorem free_cons {mg : Str → Option Value} {x : Str} {l : List Str} (h : mg x = none) (r : ∀ x ∈ l, mg x = none) : ∀ y ∈ x :: l, mg y = none := fun y m => by
  rcases List.mem_cons.mp m with rfl | m
  · exact h
  · exact r y m
theorem free_of {mg : Str → Option Value} {l : List Str} (r : ∀ x ∈ l, mg x = none) : ∀ x, l.contains x = true → mg x = none := fun x h => r x (List.contains_iff_mem.mp h)
theorem con_tup {K : PySem.W.Frag} {p : Addr} {pd : Option Addr} {pi : Array Value} {pn : Nat} {ps : Array (Option Value)} {xs : List V} {ds : List D} (h : K.lookup p = some ⟨.type "tuple", pd, .seq pi pn, ps⟩) (v : Vals xs pi.toList) (r : ∀ ok H, Reps K ok H xs ds)
    (z : xs.length ≤ sizeLine := by decide +kernel) : ∀ ok H, Rep K ok H (.ref p) (.tup ds) := fun ok H => .tup (.inr (.inr ⟨_, pi, pn, h, rfl, rfl, by have h1 := v.length; have h2 := Array.length_toList (xs := pi); omega, v⟩)) (r ok H)
end RF


/-! RFT: what the laws draw from a script -/
namespace RF
open PySem PySem.Spec PyProof.Rows L2
/-- what a program text brings: its defs, its constants, a limit of turns -/
class Has (fs : FS) (i : Nat) (F : FDef) : Prop where
  e : fs.lookup i = some F
class HasC (G : Sig) (k : Nat) (d : D) : Prop where
  e : G.con.lookup k = some d
class LimOk (G : Sig) : Prop where
  e : 100000 ≤ G.lim
theorem assoc_all {α β : Type} [BEq α] [LawfulBEq α] {P : α → β → Prop} : ∀ {l : List (α × β)}, (∀ p ∈ l, P p.1 p.2) → ∀ {a : α} {b : β}, l.lookup a = some b → P a b
  | [], _, _, _, e => nomatch e
  | (k, v) :: l, h, a, b, e => by
    rw [List.lookup_cons] at e
    cases hk : a == k with
    | true =>
      rw [hk] at e
      cases e
      have : a = k := eq_of_beq hk
      subst this
      exact h _ List.mem_cons_self
    | false =>
      rw [hk] at e
      exact assoc_all (fun p hp => h p (List.mem_cons_of_mem _ hp)) e
theorem assoc_nil {α β : Type} {P : α → β → Prop} : ∀ p ∈ ([] : List (α × β)), P p.1 p.2 := nofun
theorem assoc_cons {α β : Type} {P : α → β → Prop} {a : α} {b : β} {l : List (α × β)} (h : P a b) (r : ∀ p ∈ l, P p.1 p.2) : ∀ p ∈ (a, b) :: l, P p.1 p.2 := fun p hp => by
  rcases List.mem_cons.mp hp with rfl | hp
  · exact h
  · exact r p hp
theorem mem_nil {P : Str → Prop} : ∀ x ∈ ([] : List Str), P x := nofun
theorem mem_cons {P : Str → Prop} {x : Str} {l : List Str} (h : P x) (r : ∀ y ∈ l, P y) : ∀ y ∈ x :: l, P y := fun y hy => by
  rcases List.mem_cons.mp hy with rfl | hy
  · exact h
  · exact r y hy
theorem mem_of {P : Str → Prop} {l : List Str} (r : ∀ y ∈ l, P y) : ∀ x, l.contains x = true → P x := fun x h => r x (by simpa using h)
def clsB (bs : List Bool) (ns : List Str) (j : Nat) (t : Str) : Bool := decide (((bs.map PyData.bool).countP fun z => PyData.eqv z (.bool true)) = 1) && decide (bs[j]? = some true) && decide (ns[j]? = some t) && ((List.range j).all fun m => match (bs.map PyData.bool)[m]? with
  | some z => !PyData.eqv z (.bool true)
  | none => true)
theorem cls_t {bs : List Bool} {ns : List Str} {j : Nat} {t : Str} (h : clsB bs ns j t = true) : ClsT bs ns j t := by
  unfold clsB at h
  simp only [Bool.and_eq_true, decide_eq_true_eq, List.all_eq_true] at h
  obtain ⟨⟨⟨h1, h2⟩, h3⟩, h4⟩ := h
  refine ⟨h1, h2, fun m z hm hz => ?_, h3⟩
  have := h4 m (List.mem_range.mpr hm)
  rw [hz] at this
  simpa using this
abbrev PCon (K : PySem.W.Frag) (mg : Str → Option Value) (G : Sig) : Nat → Str → Prop := fun k x => ∃ d u v, G.con.lookup k = some d ∧ mg x = some u ∧ RelV v u ∧ ∀ ok H, Rep K ok H v d
abbrev PDef (K : PySem.W.Frag) (mg : Str → Option Value) (g : GT) (G : Sig) (fs : FS) : Nat → Str × Nat → Prop := fun f xn => ∃ fa fd qual st F N ps is, mg xn.1 = some (.ref fa) ∧ Fun K xn.1 qual st fa fd ∧ Binds K fd ps [] ∧ fs.lookup f = some F ∧ F.np = xn.2 ∧ DefOk g G F st N ps is
abbrev PExc (K : PySem.W.Frag) (mg : Str → Option Value) : Str → Prop := fun x => ∃ C, mg x = some (.ref C) ∧ Exc1 K C
abbrev TabP (K : PySem.W.Frag) (mg : Str → Option Value) (cs ns : List Str) : Addr → Str → Prop := fun D t => ExcC K D ∧ PySem.W.findIn K (.ref D) "__str__" = some (some (.builtin "BaseException.__str__")) ∧ PySem.W.kitOne K (.ref D) (.type "ValueError") = some true ∧ ∃ bs j, IsFacts K mg D cs bs ∧ ClsT bs ns j t
abbrev PTab (K : PySem.W.Frag) (mg : Str → Option Value) (cs ns : List Str) : Str → Str → Prop := fun c t => ∀ C, mg c = some (.ref C) → TabP K mg cs ns C t
abbrev PSub (K : PySem.W.Frag) (mg : Str → Option Value) (x : Str) (Pa : Addr) : Str × Str → Bool → Prop := fun k b => k.2 = x → ∀ C, mg k.1 = some (.ref C) → PySem.W.exmOne K (.ref C) (.ref Pa) = some b
abbrev PTry (P : Program) (w : World) (K : PySem.W.Frag) (mg : Str → Option Value) (G : Sig) (y : Str) : Str → Prop := fun x => ∃ (Pa f : Addr) (fd : FuncData) (tab : Addr → Str → Prop), mg x = some (.ref Pa) ∧ TryOk K mg G x Pa tab ∧ (∀ base, CFn P w K mg base f fd tab) ∧ mg y = some (.ref f) ∧ PySem.W.keepIn K (.ref f) = true ∧ Binds K fd [("e" : Str)] []
/-- what goes on behind a value: as an instance, so that simp leaves it alone until the value has come -/
class Cont (α β : Type) where
  go : α → Res β
def Res.bindC {α β : Type} (x : Res α) [c : Cont α β] : Res β := x.bind c.go
theorem Res.bind_hide {α β : Type} (x : Res α) (f : α → Res β) : x.bind f = @Res.bindC α β x ⟨f⟩ := rfl
theorem Res.bindC_ok {α β : Type} (a : α) (f : α → Res β) : @Res.bindC α β (.ok a) ⟨f⟩ = f a := rfl
theorem Res.bindC_ex {α β : Type} (a : Str) (f : α → Res β) : @Res.bindC α β (.ex a) ⟨f⟩ = .ex a := rfl
/-- _law_take -/
def takeB : I :=
  (.seq (.ifS (.tcp .Eq (.consE (.ixe (.argN 0 (.consE (.cI 1) .nilE))) (.consE (.cI 0) .nilE)))
  (.seq (.asg (.tN 2) (.ixe (.argN 0 (.consE (.cI 2) .nilE))))
  (.seq (.asg (.tN 3) (.cI 0))
  (.seq (.ifS (.tcp .Lt (.argN 2 (.consE (.blt .len (.consE (.ixe (.argN 0 (.consE (.cI 3) .nilE))) .nilE)) .nilE)))
  (.seq (.asg (.tN 3) (.ixe (.consE (.ixe (.argN 0 (.consE (.cI 3) .nilE))) (.argN 2 .nilE))))
  (.seq (.sti 0 (.cI 1) (.ife (.tcp .GtE (.argN 3 (.consE (.bop .Pow (.consE (.cI 10) (.consE (.cI 18) .nilE))) .nilE))) (.cI 60) (.uop .USub (.consE (.cI 9) .nilE))))
  .skip))
  .skip)
  (.seq (.sti 0 (.cI 2) (.bop .Add (.argN 2 (.consE (.cI 1) .nilE))))
  (.seq (.sti 0 (.cI 0) (.var 3))
  (.seq (.ifS (.tcp .Eq (.consE (.ixe (.argN 0 (.consE (.cI 1) .nilE))) (.consE (.cI 0) .nilE)))
  (.seq (.ret (.cI 0))
  .skip)
  .skip)
  .skip))))))
  .skip)
  (.seq (.ifS (.tcp .Gt (.consE (.ixe (.argN 0 (.consE (.cI 1) .nilE))) (.consE (.cI 0) .nilE)))
  (.seq (.asg (.tN 4) (.bop .Mod (.consE (.blt .int_ (.consE (.ixe (.argN 0 (.consE (.cI 0) .nilE))) .nilE)) (.argN 1 .nilE))))
  (.seq (.sti 0 (.cI 0) (.bop .FloorDiv (.consE (.ixe (.argN 0 (.consE (.cI 0) .nilE))) (.argN 1 .nilE))))
  (.seq (.sti 0 (.cI 1) (.ife (.tcp .Gt (.consE (.ixe (.argN 0 (.consE (.cI 0) .nilE))) (.consE (.cI 0) .nilE))) (.bop .Sub (.consE (.ixe (.argN 0 (.consE (.cI 1) .nilE))) (.consE (.cI 1) .nilE))) (.cI 0)))
  (.seq (.ret (.mov 4))
  .skip))))
  .skip)
  (.seq (.sti 0 (.cI 1) (.bop .Add (.consE (.ixe (.argN 0 (.consE (.cI 1) .nilE))) (.consE (.cI 1) .nilE))))
  (.seq (.sti 0 (.cI 0) (.bop .Mod (.consE (.blt .int_ (.consE (.bop .Add (.consE (.bop .Mult (.consE (.ixe (.argN 0 (.consE (.cI 0) .nilE))) (.consE (.cI 48271) .nilE))) (.consE (.bop .Mult (.consE (.cI 69621) (.consE (.bop .Add (.consE (.ixe (.argN 0 (.consE (.cI 1) .nilE))) (.consE (.cI 20) .nilE))) .nilE))) .nilE))) .nilE)) (.consE (.cI 2147483647) .nilE))))
  (.seq (.ret (.bop .Mod (.consE (.bop .Mod (.consE (.blt .int_ (.consE (.bop .Add (.consE (.bop .FloorDiv (.consE (.ixe (.argN 0 (.consE (.cI 0) .nilE))) (.consE (.cI 7) .nilE))) (.consE (.ixe (.argN 0 (.consE (.cI 0) .nilE))) .nilE))) .nilE)) (.consE (.cI 1000003) .nilE))) (.argN 1 .nilE))))
  .skip)))))
def takeF : FDef := ⟨2, 5, [true, true], takeB⟩

/-! ### words for evaluation -/
section
variable {s s2 : Sl} {e : Env} {d : D} {b : Bool} {as : List AV} {ds : List D} {f : Fl} {c : Str} {n : Nat} {i j : Int} {r : List AV} {ss : List Sl}
theorem valOf_val : valOf (.ok (.val s, e)) = .ok (s, e) := rfl
theorem argsOf_args : argsOf (.ok (.args as, e)) = .ok (as, e) := rfl
theorem itsOf_its : itsOf (.ok (.its ds, e)) = .ok (ds, e) := rfl
theorem tstOf_bl : tstOf (.ok (.val (.sh (.bl b)), e)) = .ok (b, e) := rfl
theorem flOf_fl : flOf (.ok (.fl f, e)) = .ok (f, e) := rfl
theorem ofO_some {α : Type} {a : α} : ofO (some a) = .ok a := rfl
theorem d_sh : (Sl.sh d).d = some d := rfl
theorem d_ow : (Sl.ow d).d = some d := rfl
theorem down_sh : (Sl.sh d).down = .sh d := rfl
theorem down_ow : (Sl.ow d).down = .sh d := rfl
theorem pl_int : D.pl n (.int i) = true := by cases n <;> rfl
theorem pl_bl : D.pl n (.bl b) = true := by cases n <;> rfl
theorem cop_eqD {x y : D} (hx : x.pl deepest = true) (hy : y.pl deepest = true) : pCop .Eq x y = some (D.eqv x y) := by
  show (if (x.pl deepest && y.pl deepest) = true then some (D.eqv x y) else none) = _
  rw [hx, hy]
  rfl
theorem cop_neD {x y : D} (hx : x.pl deepest = true) (hy : y.pl deepest = true) : pCop .NotEq x y = some (!D.eqv x y) := by
  show (if (x.pl deepest && y.pl deepest) = true then some (!D.eqv x y) else none) = _
  rw [hx, hy]
  rfl
theorem cop_eq : pCop .Eq (.int i) (.int j) = some (decide (i = j)) := cop_eqD pl_int pl_int
theorem cop_ne : pCop .NotEq (.int i) (.int j) = some (!decide (i = j)) := cop_neD pl_int pl_int
theorem cop_lt : pCop .Lt (.int i) (.int j) = some (decide (i < j)) := rfl
theorem cop_le : pCop .LtE (.int i) (.int j) = some (decide (i ≤ j)) := rfl
theorem cop_gt : pCop .Gt (.int i) (.int j) = some (decide (j < i)) := rfl
theorem cop_ge : pCop .GtE (.int i) (.int j) = some (decide (j ≤ i)) := rfl
theorem bop_add : pBop .Add (.int i) (.int j) = some (.sh (.int (i + j))) := rfl
theorem bop_sub : pBop .Sub (.int i) (.int j) = some (.sh (.int (i - j))) := rfl
theorem bop_mul (h : i.natAbs.log2 + j.natAbs.log2 < 1000000) : pBop .Mult (.int i) (.int j) = some (.sh (.int (i * j))) := if_pos h
theorem bop_div (h : 0 < j) (h2 : j.natAbs.log2 < 9000) : pBop .FloorDiv (.int i) (.int j) = some (.sh (.int (i / j))) := if_pos ⟨h, h2⟩
theorem bop_mod (h : 0 < j) : pBop .Mod (.int i) (.int j) = some (.sh (.int (i % j))) := if_pos h
theorem uop_sub : pUop .USub (.int i) = some (.sh (.int (-i))) := rfl
theorem pow18 : pBop .Pow (.int 10) (.int 18) = some (.sh (.int 1000000000000000000)) := rfl
theorem blt_int : pBlt .int_ [.int i] = some (.sh (.int i)) := rfl
theorem blt_abs : pBlt .abs [.int i] = some (.sh (.int (if i < 0 then -i else i))) := rfl
theorem blt_list {ds : List D} : pBlt .list_ [.lst ds] = some (.ow (.lst ds)) := rfl
theorem blt_len {ds : List D} : pBlt .len [.lst ds] = some (.sh (.int ds.length)) := rfl
theorem blt_isi {t : String} : pBlt .isinstance [d, .ty t] = (isiD d t).map fun b => .sh (.bl b) := rfl
theorem look_nil : look e [] = some [] := rfl
theorem look_vl : look e (.vl s :: r) = s.d.bind fun d => (look e r).map (d :: ·) := by
  rw [look]
  cases s.d <;> rfl
theorem look_nm {i : Nat} : look e (.nm i :: r) = e[i]?.bind fun s => s.d.bind fun d => (look e r).map (d :: ·) := by
  rw [look]
  cases e[i]? with
  | none => rfl
  | some s =>
    show (match s.d with
      | some d => (look e r).map (d :: ·)
      | none => none) = s.d.bind fun d => (look e r).map (d :: ·)
    cases s.d <;> rfl
def handM (r : Option (List Sl)) : Sl → Option (List Sl)
  | .sh d => r.map (.sh d :: ·)
  | .ow d => r.map (.ow d :: ·)
  | _ => none
theorem hand_nil : hand e [] = some [] := rfl
theorem hand_vl : hand e (.vl s :: r) = (hand e r).map (s :: ·) := rfl
theorem hand_nm {i : Nat} : hand e (.nm i :: r) = e[i]?.bind (handM (hand e r)) := by
  rw [hand]
  cases e[i]? with
  | none => rfl
  | some s => cases s <;> rfl
theorem handM_sh {r : Option (List Sl)} : handM r (.sh d) = r.map (.sh d :: ·) := rfl
theorem handM_ow {r : Option (List Sl)} : handM r (.ow d) = r.map (.ow d :: ·) := rfl
def onceM (i : Nat) (r : List AV) : Option Sl → Bool
  | some (.ow _) => !(r.any (isNm i))
  | _ => true
theorem once_nil : once e [] = true := rfl
theorem once_vl : once e (.vl s :: r) = once e r := rfl
theorem once_nm {i : Nat} : once e (.nm i :: r) = (onceM i r e[i]? && once e r) := by
  rw [once]
  cases e[i]? with
  | none => rfl
  | some s => cases s <;> rfl
theorem onceM_sh {i : Nat} : onceM i r (some (.sh d)) = true := rfl
theorem onceM_ow {i : Nat} : onceM i r (some (.ow d)) = !(r.any (isNm i)) := rfl
def backM (e : Env) (i : Nat) (s : Sl) (r : List AV) (ss : List Sl) : Option Sl → Env
  | some (.ow _) => back (e.set i s) r ss
  | _ => back e r ss
theorem back_nil : back e [] [] = e := rfl
theorem back_vl : back e (.vl s :: r) (s2 :: ss) = back e r ss := rfl
theorem back_nm {i : Nat} : back e (.nm i :: r) (s :: ss) = backM e i s r ss e[i]? := by
  rw [back]
  cases e[i]? with
  | none => rfl
  | some s => cases s <;> rfl
theorem backM_sh {i : Nat} : backM e i s r ss (some (.sh d)) = back e r ss := rfl
theorem backM_ow {i : Nat} : backM e i s r ss (some (.ow d)) = back (e.set i s) r ss := rfl
theorem vals_nil : vals [] = some [] := rfl
theorem vals_vl : vals (.vl s :: r) = s.d.bind fun d => (vals r).map (d :: ·) := by
  rw [vals]
  cases s.d <;> rfl
theorem pIx_0 {x : D} {r : List D} : pIx (.lst (x :: r)) (.int 0) = some (.sh x) := by
  simp [pIx, atI, ixN]
theorem pIx_4 {w x y z : D} : pIx (.lst [w, x, y, z]) (.int 1) = some (.sh x) ∧ pIx (.lst [w, x, y, z]) (.int 2) = some (.sh y) ∧ pIx (.lst [w, x, y, z]) (.int 3) = some (.sh z) := ⟨rfl, rfl, rfl⟩
theorem ixN_4 : ixN 4 0 = some 0 ∧ ixN 4 1 = some 1 ∧ ixN 4 2 = some 2 ∧ ixN 4 3 = some 3 := ⟨rfl, rfl, rfl, rfl⟩
theorem pIx_at {cs : List D} {k : Int} {d : D} (h0 : 0 ≤ k) (h : cs[k.toNat]? = some d) : pIx (.lst cs) (.int k) = some (.sh d) := by
  have hl := (List.getElem?_eq_some_iff.mp h).1
  have e : ixN cs.length k = some k.toNat := by
    unfold ixN
    rw [if_pos h0, if_pos (by omega)]
  show (atI cs k).map Sl.sh = _
  unfold atI
  rw [e]
  show (cs[k.toNat]?).map Sl.sh = _
  rw [h]
  rfl
end
theorem log2_small {i : Int} (h0 : 0 ≤ i) (h : i < 1000000000000000000) : i.natAbs.log2 < 64 := by
  rcases Nat.eq_zero_or_pos i.natAbs with e | e
  · rw [e]; decide
  · exact (Nat.log2_lt (by omega)).mpr (by omega)
/-! ### the draws -/
section
variable {G : Sig} {call : Nat → List Sl → Res (Sl × List Sl)} {a b c m : Int} {cs : List D}
abbrev bx (a b c : Int) (cs : List D) : Sl := .ow (.lst [.int a, .int b, .int c, .lst cs])
theorem take_neg (hm : 0 < m) (hb : b < 0) (hb2 : -9 ≤ b) (ha0 : 0 ≤ a) (ha : a < 1000000000000000000) :
    ev G call takeB [bx a b c cs, .sh (.int m), .un, .un, .un] =
      .ok (.fl (.rt (.sh (.int (((a * 48271 + 69621 * (b + 1 + 20)) % 2147483647 / 7 + (a * 48271 + 69621 * (b + 1 + 20)) % 2147483647) % 1000003 % m)))), [bx ((a * 48271 + 69621 * (b + 1 + 20)) % 2147483647) (b + 1) c cs, .sh (.int m), .un, .un, .un]) := by
  have h1 : ¬ b = 0 := by omega
  have h2 : ¬ 0 < b := by omega
  have h3 : a.natAbs.log2 + (48271 : Int).natAbs.log2 < 1000000 := by
    have := log2_small ha0 ha
    have e : (48271 : Int).natAbs.log2 = 15 := by decide +kernel
    omega
  have h4 : (69621 : Int).natAbs.log2 + (b + 1 + 20).natAbs.log2 < 1000000 := by
    have := log2_small (i := b + 1 + 20) (by omega) (by omega)
    have e : (69621 : Int).natAbs.log2 = 16 := by decide +kernel
    omega
  have h5 : (0 : Int) < 2147483647 := by decide
  have h6 : (0 : Int) < 1000003 := by decide
  have h7 : (0 : Int) < 7 := by decide
  have h8 : (7 : Int).natAbs.log2 < 9000 := by decide +kernel
  unfold takeB
  simp only [ev, ↓Res.bind_hide, Res.bindC_ok, Res.bindC_ex, flOf_fl, tstOf_bl, argsOf_args, valOf_val, itsOf_its, List.getElem?_cons_zero, List.getElem?_cons_succ, look_nil, look_vl, look_nm, hand_nil, hand_vl, hand_nm, handM_sh, handM_ow, once_nil, once_vl, once_nm, onceM_sh, onceM_ow, isNm, List.any_nil, List.any_cons, back_nil, back_vl, back_nm, backM_sh, backM_ow, vals_nil, vals_vl, d_sh, d_ow, down_sh, down_ow, Option.bind_some, Option.map_some, pIx_0, pIx_4, ixN_4, cop_eq, cop_ne, cop_gt, cop_lt, cop_le, cop_ge, ofO_some, bop_add, bop_sub, uop_sub, pow18, blt_int, blt_len, blt_abs, blt_list, blt_isi, decide_eq_true_eq, ↓reduceIte, decide_false, decide_true, Bool.false_eq_true, List.length_cons, List.length_nil, Nat.zero_add, Nat.reduceAdd, Nat.reduceLeDiff, Nat.reduceEqDiff, Nat.reduceBEq, List.set_cons_zero, List.set_cons_succ, Nat.reduceLT, Bool.not_true, Bool.not_false, Bool.or_false, Bool.false_or, Bool.and_true, Bool.true_and, beq_self_eq_true, eq_self, Int.reduceEq, Int.reduceLT, Int.reduceLE, h1, h2, bop_mul h3, bop_mul h4, bop_div h7 h8, bop_mod h5, bop_mod h6, bop_mod hm]
theorem take_pos (hm : 0 < m) (hm2 : m < 1000000000000000000) (hb : 0 < b) :
    ev G call takeB [bx a b c cs, .sh (.int m), .un, .un, .un] =
      .ok (.fl (.rt (.sh (.int (a % m)))), [bx (a / m) (if 0 < a / m then b - 1 else 0) c cs, .sh (.int m), .un, .un, .sh (.int (a % m))]) := by
  have h1 : ¬ b = 0 := by omega
  have h8 : m.natAbs.log2 < 9000 := by have := log2_small (Int.le_of_lt hm) hm2; omega
  unfold takeB
  by_cases h : 0 < a / m
  · simp only [ev, ↓Res.bind_hide, Res.bindC_ok, Res.bindC_ex, flOf_fl, tstOf_bl, argsOf_args, valOf_val, itsOf_its, List.getElem?_cons_zero, List.getElem?_cons_succ, look_nil, look_vl, look_nm, hand_nil, hand_vl, hand_nm, handM_sh, handM_ow, once_nil, once_vl, once_nm, onceM_sh, onceM_ow, isNm, List.any_nil, List.any_cons, back_nil, back_vl, back_nm, backM_sh, backM_ow, vals_nil, vals_vl, d_sh, d_ow, down_sh, down_ow, Option.bind_some, Option.map_some, pIx_0, pIx_4, ixN_4, cop_eq, cop_ne, cop_gt, cop_lt, cop_le, cop_ge, ofO_some, bop_add, bop_sub, uop_sub, pow18, blt_int, blt_len, blt_abs, blt_list, blt_isi, decide_eq_true_eq, ↓reduceIte, decide_false, decide_true, Bool.false_eq_true, List.length_cons, List.length_nil, Nat.zero_add, Nat.reduceAdd, Nat.reduceLeDiff, Nat.reduceEqDiff, Nat.reduceBEq, List.set_cons_zero, List.set_cons_succ, Nat.reduceLT, Bool.not_true, Bool.not_false, Bool.or_false, Bool.false_or, Bool.and_true, Bool.true_and, beq_self_eq_true, eq_self, Int.reduceEq, Int.reduceLT, Int.reduceLE, h1, hb, bop_div hm h8, bop_mod hm, h]
  · simp only [ev, ↓Res.bind_hide, Res.bindC_ok, Res.bindC_ex, flOf_fl, tstOf_bl, argsOf_args, valOf_val, itsOf_its, List.getElem?_cons_zero, List.getElem?_cons_succ, look_nil, look_vl, look_nm, hand_nil, hand_vl, hand_nm, handM_sh, handM_ow, once_nil, once_vl, once_nm, onceM_sh, onceM_ow, isNm, List.any_nil, List.any_cons, back_nil, back_vl, back_nm, backM_sh, backM_ow, vals_nil, vals_vl, d_sh, d_ow, down_sh, down_ow, Option.bind_some, Option.map_some, pIx_0, pIx_4, ixN_4, cop_eq, cop_ne, cop_gt, cop_lt, cop_le, cop_ge, ofO_some, bop_add, bop_sub, uop_sub, pow18, blt_int, blt_len, blt_abs, blt_list, blt_isi, decide_eq_true_eq, ↓reduceIte, decide_false, decide_true, Bool.false_eq_true, List.length_cons, List.length_nil, Nat.zero_add, Nat.reduceAdd, Nat.reduceLeDiff, Nat.reduceEqDiff, Nat.reduceBEq, List.set_cons_zero, List.set_cons_succ, Nat.reduceLT, Bool.not_true, Bool.not_false, Bool.or_false, Bool.false_or, Bool.and_true, Bool.true_and, beq_self_eq_true, eq_self, Int.reduceEq, Int.reduceLT, Int.reduceLE, h1, hb, bop_div hm h8, bop_mod hm, h]
theorem take_end (hm : 0 < m) (hc : ¬ c < (cs.length : Int)) :
    ev G call takeB [bx a 0 c cs, .sh (.int m), .un, .un, .un] = .ok (.fl (.rt (.sh (.int 0))), [bx 0 0 (c + 1) cs, .sh (.int m), .sh (.int c), .sh (.int 0), .un]) := by
  unfold takeB
  simp only [ev, ↓Res.bind_hide, Res.bindC_ok, Res.bindC_ex, flOf_fl, tstOf_bl, argsOf_args, valOf_val, itsOf_its, List.getElem?_cons_zero, List.getElem?_cons_succ, look_nil, look_vl, look_nm, hand_nil, hand_vl, hand_nm, handM_sh, handM_ow, once_nil, once_vl, once_nm, onceM_sh, onceM_ow, isNm, List.any_nil, List.any_cons, back_nil, back_vl, back_nm, backM_sh, backM_ow, vals_nil, vals_vl, d_sh, d_ow, down_sh, down_ow, Option.bind_some, Option.map_some, pIx_0, pIx_4, ixN_4, cop_eq, cop_ne, cop_gt, cop_lt, cop_le, cop_ge, ofO_some, bop_add, bop_sub, uop_sub, pow18, blt_int, blt_len, blt_abs, blt_list, blt_isi, decide_eq_true_eq, ↓reduceIte, decide_false, decide_true, Bool.false_eq_true, List.length_cons, List.length_nil, Nat.zero_add, Nat.reduceAdd, Nat.reduceLeDiff, Nat.reduceEqDiff, Nat.reduceBEq, List.set_cons_zero, List.set_cons_succ, Nat.reduceLT, Bool.not_true, Bool.not_false, Bool.or_false, Bool.false_or, Bool.and_true, Bool.true_and, beq_self_eq_true, eq_self, Int.reduceEq, Int.reduceLT, Int.reduceLE, hc]
theorem take_newN {x : Int} (hm : 0 < m) (hc0 : 0 ≤ c) (hc : cs[c.toNat]? = some (.int x)) (hx0 : 0 ≤ x) (hx : ¬ 1000000000000000000 ≤ x) :
    ev G call takeB [bx a 0 c cs, .sh (.int m), .un, .un, .un] =
      .ok (.fl (.rt (.sh (.int (((x * 48271 + 69621 * (-9 + 1 + 20)) % 2147483647 / 7 + (x * 48271 + 69621 * (-9 + 1 + 20)) % 2147483647) % 1000003 % m)))), [bx ((x * 48271 + 69621 * (-9 + 1 + 20)) % 2147483647) (-9 + 1) (c + 1) cs, .sh (.int m), .sh (.int c), .sh (.int x), .un]) := by
  have hl : c < (cs.length : Int) := by have := (List.getElem?_eq_some_iff.mp hc).1; omega
  have h3 : x.natAbs.log2 + (48271 : Int).natAbs.log2 < 1000000 := by
    have := log2_small hx0 (by omega)
    have e : (48271 : Int).natAbs.log2 = 15 := by decide +kernel
    omega
  have h4 : (69621 : Int).natAbs.log2 + (-9 + 1 + 20 : Int).natAbs.log2 < 1000000 := by decide +kernel
  have h5 : (0 : Int) < 2147483647 := by decide
  have h6 : (0 : Int) < 1000003 := by decide
  have h7 : (0 : Int) < 7 := by decide
  have h8 : (7 : Int).natAbs.log2 < 9000 := by decide +kernel
  have g1 : ¬ (-9 : Int) = 0 := by decide
  have g2 : ¬ (0 : Int) < -9 := by decide
  unfold takeB
  simp only [ev, ↓Res.bind_hide, Res.bindC_ok, Res.bindC_ex, flOf_fl, tstOf_bl, argsOf_args, valOf_val, itsOf_its, List.getElem?_cons_zero, List.getElem?_cons_succ, look_nil, look_vl, look_nm, hand_nil, hand_vl, hand_nm, handM_sh, handM_ow, once_nil, once_vl, once_nm, onceM_sh, onceM_ow, isNm, List.any_nil, List.any_cons, back_nil, back_vl, back_nm, backM_sh, backM_ow, vals_nil, vals_vl, d_sh, d_ow, down_sh, down_ow, Option.bind_some, Option.map_some, pIx_0, pIx_4, ixN_4, cop_eq, cop_ne, cop_gt, cop_lt, cop_le, cop_ge, ofO_some, bop_add, bop_sub, uop_sub, pow18, blt_int, blt_len, blt_abs, blt_list, blt_isi, decide_eq_true_eq, ↓reduceIte, decide_false, decide_true, Bool.false_eq_true, List.length_cons, List.length_nil, Nat.zero_add, Nat.reduceAdd, Nat.reduceLeDiff, Nat.reduceEqDiff, Nat.reduceBEq, List.set_cons_zero, List.set_cons_succ, Nat.reduceLT, Bool.not_true, Bool.not_false, Bool.or_false, Bool.false_or, Bool.and_true, Bool.true_and, beq_self_eq_true, eq_self, Int.reduceEq, Int.reduceLT, Int.reduceLE, hl, hx, pIx_at hc0 hc, g1, g2, bop_mul h3, bop_mul h4, bop_div h7 h8, bop_mod h5, bop_mod h6, bop_mod hm]
theorem take_newP {x : Int} (hm : 0 < m) (hm2 : m < 1000000000000000000) (hc0 : 0 ≤ c) (hc : cs[c.toNat]? = some (.int x)) (hx : 1000000000000000000 ≤ x) :
    ev G call takeB [bx a 0 c cs, .sh (.int m), .un, .un, .un] =
      .ok (.fl (.rt (.sh (.int (x % m)))), [bx (x / m) (if 0 < x / m then 60 - 1 else 0) (c + 1) cs, .sh (.int m), .sh (.int c), .sh (.int x), .sh (.int (x % m))]) := by
  have hl : c < (cs.length : Int) := by have := (List.getElem?_eq_some_iff.mp hc).1; omega
  have h8 : m.natAbs.log2 < 9000 := by have := log2_small (Int.le_of_lt hm) hm2; omega
  have g1 : ¬ (60 : Int) = 0 := by decide
  have g2 : (0 : Int) < 60 := by decide
  unfold takeB
  by_cases h : 0 < x / m
  · simp only [ev, ↓Res.bind_hide, Res.bindC_ok, Res.bindC_ex, flOf_fl, tstOf_bl, argsOf_args, valOf_val, itsOf_its, List.getElem?_cons_zero, List.getElem?_cons_succ, look_nil, look_vl, look_nm, hand_nil, hand_vl, hand_nm, handM_sh, handM_ow, once_nil, once_vl, once_nm, onceM_sh, onceM_ow, isNm, List.any_nil, List.any_cons, back_nil, back_vl, back_nm, backM_sh, backM_ow, vals_nil, vals_vl, d_sh, d_ow, down_sh, down_ow, Option.bind_some, Option.map_some, pIx_0, pIx_4, ixN_4, cop_eq, cop_ne, cop_gt, cop_lt, cop_le, cop_ge, ofO_some, bop_add, bop_sub, uop_sub, pow18, blt_int, blt_len, blt_abs, blt_list, blt_isi, decide_eq_true_eq, ↓reduceIte, decide_false, decide_true, Bool.false_eq_true, List.length_cons, List.length_nil, Nat.zero_add, Nat.reduceAdd, Nat.reduceLeDiff, Nat.reduceEqDiff, Nat.reduceBEq, List.set_cons_zero, List.set_cons_succ, Nat.reduceLT, Bool.not_true, Bool.not_false, Bool.or_false, Bool.false_or, Bool.and_true, Bool.true_and, beq_self_eq_true, eq_self, Int.reduceEq, Int.reduceLT, Int.reduceLE, hl, hx, pIx_at hc0 hc, g1, g2, bop_div hm h8, bop_mod hm, h]
  · simp only [ev, ↓Res.bind_hide, Res.bindC_ok, Res.bindC_ex, flOf_fl, tstOf_bl, argsOf_args, valOf_val, itsOf_its, List.getElem?_cons_zero, List.getElem?_cons_succ, look_nil, look_vl, look_nm, hand_nil, hand_vl, hand_nm, handM_sh, handM_ow, once_nil, once_vl, once_nm, onceM_sh, onceM_ow, isNm, List.any_nil, List.any_cons, back_nil, back_vl, back_nm, backM_sh, backM_ow, vals_nil, vals_vl, d_sh, d_ow, down_sh, down_ow, Option.bind_some, Option.map_some, pIx_0, pIx_4, ixN_4, cop_eq, cop_ne, cop_gt, cop_lt, cop_le, cop_ge, ofO_some, bop_add, bop_sub, uop_sub, pow18, blt_int, blt_len, blt_abs, blt_list, blt_isi, decide_eq_true_eq, ↓reduceIte, decide_false, decide_true, Bool.false_eq_true, List.length_cons, List.length_nil, Nat.zero_add, Nat.reduceAdd, Nat.reduceLeDiff, Nat.reduceEqDiff, Nat.reduceBEq, List.set_cons_zero, List.set_cons_succ, Nat.reduceLT, Bool.not_true, Bool.not_false, Bool.or_false, Bool.false_or, Bool.and_true, Bool.true_and, beq_self_eq_true, eq_self, Int.reduceEq, Int.reduceLT, Int.reduceLE, hl, hx, pIx_at hc0 hc, g1, g2, bop_div hm h8, bop_mod hm, h]
end
structure Box where
  a : Int
  b : Int
  c : Int
  cs : List Int
/-- a box that a def of the law holds -/
abbrev Box.sl (B : Box) : Sl := .ow (.lst [.int B.a, .int B.b, .int B.c, .lst (B.cs.map .int)])
/-- as the laws draw: non-negative numbers, small ones below the digits -/
structure Box.Ok (B : Box) : Prop where
  a0 : 0 ≤ B.a
  c0 : 0 ≤ B.c
  neg : B.b < 0 → B.a < 1000000000000000000
  lo : -9 ≤ B.b
  cs0 : ∀ x ∈ B.cs, 0 ≤ x
/-- what a draw leaves, for a box that is well -/
structure Drawn (B B' : Box) (r : Int) (m : Int) : Prop where
  ok : B'.Ok
  r0 : 0 ≤ r
  rm : r < m
theorem ev_take {G : Sig} {call : Nat → List Sl → Res (Sl × List Sl)} {B : Box} {m : Int} (h : B.Ok) (hm : 0 < m) (hm2 : m < 1000000000000000000) :
    ∃ r B' u v w, ev G call takeB [B.sl, .sh (.int m), .un, .un, .un] = .ok (.fl (.rt (.sh (.int r))), [B'.sl, .sh (.int m), u, v, w]) ∧ Drawn B B' r m := by
  obtain ⟨a, b, c, cs⟩ := B
  obtain ⟨a0, c0, neg, lo, cs0⟩ := h
  have q7 : (0 : Int) < 2147483647 := by decide
  by_cases h0 : b = 0
  · subst h0
    by_cases hc : c < (cs.length : Int)
    · have hx : cs[c.toNat]? = some (cs[c.toNat]'(by simp only at c0; omega)) := List.getElem?_eq_getElem _
      generalize cs[c.toNat]'(by simp only at c0; omega) = x at hx
      have x0 : 0 ≤ x := cs0 x (List.mem_of_getElem? hx)
      have hx' : (cs.map D.int)[c.toNat]? = some (.int x) := by rw [List.getElem?_map, hx]; rfl
      by_cases hb : 1000000000000000000 ≤ x
      · refine ⟨_, ⟨x / m, if 0 < x / m then 60 - 1 else 0, c + 1, cs⟩, _, _, _, take_newP hm hm2 c0 hx' hb, ⟨Int.ediv_nonneg x0 (Int.le_of_lt hm), Int.add_nonneg c0 (by decide), fun z => ?_, ?_, cs0⟩, Int.emod_nonneg _ (by omega), Int.emod_lt_of_pos _ hm⟩
        · simp only at z
          split at z <;> omega
        · simp only
          split <;> decide
      · have e0 := Int.emod_nonneg (x * 48271 + 69621 * (-9 + 1 + 20)) (show (2147483647 : Int) ≠ 0 by decide)
        have e1 := Int.emod_lt_of_pos (x * 48271 + 69621 * (-9 + 1 + 20)) q7
        exact ⟨_, ⟨_, -9 + 1, c + 1, cs⟩, _, _, _, take_newN hm c0 hx' x0 hb, ⟨e0, Int.add_nonneg c0 (by decide), fun _ => by simp only; omega, (show (-9 : Int) ≤ -9 + 1 by decide), cs0⟩, Int.emod_nonneg _ (by omega), Int.emod_lt_of_pos _ hm⟩
    · exact ⟨_, ⟨0, 0, c + 1, cs⟩, _, _, _, take_end hm (by rw [List.length_map]; exact hc), ⟨Int.le_refl 0, Int.add_nonneg c0 (by decide), fun z => by simp only at z; omega, (show (-9 : Int) ≤ 0 by decide), cs0⟩, Int.le_refl 0, hm⟩
  · by_cases hb : 0 < b
    · refine ⟨_, ⟨a / m, if 0 < a / m then b - 1 else 0, c, cs⟩, _, _, _, take_pos hm hm2 hb, ⟨Int.ediv_nonneg a0 (Int.le_of_lt hm), c0, fun z => ?_, ?_, cs0⟩, Int.emod_nonneg _ (by omega), Int.emod_lt_of_pos _ hm⟩
      · simp only at z
        split at z <;> omega
      · simp only
        split <;> omega
    · have hb' : b < 0 := by omega
      have e0 := Int.emod_nonneg (a * 48271 + 69621 * (b + 1 + 20)) (show (2147483647 : Int) ≠ 0 by decide)
      have e1 := Int.emod_lt_of_pos (a * 48271 + 69621 * (b + 1 + 20)) q7
      exact ⟨_, ⟨_, b + 1, c, cs⟩, _, _, _, take_neg hm hb' lo a0 (neg hb'), ⟨e0, c0, fun _ => by simp only; omega, by simp only at lo ⊢; omega, cs0⟩, Int.emod_nonneg _ (by omega), Int.emod_lt_of_pos _ hm⟩
theorem run_take {G : Sig} {fs : FS} {n j : Nat} (hf : fs.lookup j = some takeF) {B : Box} {m : Int} (h : B.Ok) (hm : 0 < m) (hm2 : m < 1000000000000000000) :
    ∃ r B', run G fs (n + 1) j [B.sl, .sh (.int m)] = .ok (.sh (.int r), [B'.sl, .sh (.int m)]) ∧ Drawn B B' r m := by
  obtain ⟨r, B', u, v, w, e, d⟩ := ev_take (G := G) (call := run G fs n) h hm hm2
  refine ⟨r, B', ?_, d⟩
  rw [run, hf]
  show (match ev G (run G fs n) takeB [B.sl, .sh (.int m), .un, .un, .un] with
    | .ok (.fl .nx, e) => Res.ok (Sl.sh D.non, outs takeF.fix [B.sl, .sh (.int m)] e)
    | .ok (.fl (.rt s), e) => .ok (s, outs takeF.fix [B.sl, .sh (.int m)] e)
    | .ok _ => .bad
    | .ex c => .ex c
    | .bad => .bad) = _
  rw [e]
  rfl
/-! ### comprehensions, loops, defs -/
section
variable {G : Sig} {call : Nat → List Sl → Res (Sl × List Sl)}
theorem run_def {fs : FS} {n f : Nat} {F : FDef} {ss : List Sl} {s : Sl} {e : Env} (hf : fs.lookup f = some F) (hl : ss.length = F.np) (h : ev G (run G fs n) F.body (ss ++ List.replicate (F.ns - F.np) .un) = .ok (.fl (.rt s), e)) :
    run G fs (n + 1) f ss = .ok (s, outs F.fix ss e) := by
  rw [run, hf]
  simp only [hl, if_true, h]
theorem ev_seq {a b : I} {e e' : Env} (h : ev G call a e = .ok (.fl .nx, e')) : ev G call (.seq a b) e = ev G call b e' := by
  rw [ev, h]
  rfl
theorem lcL_map {step : D → Env → R} {P : Env → Prop} {g : D → Option D} : ∀ {ds : List D} {e : Env}, (∀ d ∈ ds, ∀ e, P e → ∃ e', step d e = .ok (.opt (g d), e') ∧ P e') → P e → ∃ e', lcL step ds e = .ok (ds.filterMap g, e') ∧ P e'
  | [], e, _, p => ⟨e, rfl, p⟩
  | d :: ds, e, h, p => by
    obtain ⟨e1, h1, p1⟩ := h d List.mem_cons_self e p
    obtain ⟨e2, h2, p2⟩ := lcL_map (ds := ds) (fun d hd => h d (List.mem_cons_of_mem _ hd)) p1
    refine ⟨e2, ?_, p2⟩
    rw [lcL, h1]
    simp only [h2, Res.bind_ok]
    cases hg : g d with
    | none => rw [List.filterMap_cons_none hg]; rfl
    | some y => rw [List.filterMap_cons_some hg]; rfl
theorem set_set_same {e : Env} {i : Nat} {s : Sl} (h : e[i]? = some s) : ∀ t, (e.set i t).set i s = e := fun t => by
  rw [List.set_set]
  apply List.ext_getElem?
  intro k
  rw [List.getElem?_set]
  split
  · rename_i hk
    subst hk
    rw [if_pos (List.getElem?_eq_some_iff.mp h).1, h]
  · rfl
/-- a comprehension of one name whose parts change no name -/
theorem ev_lc1 {i : Nat} {it ifs x : I} {e : Env} {ds : List D} {g : D → Option D} {s0 : Sl} (hs : e[i]? = some s0) (hno : ∀ d, s0 ≠ .ow d) (hit : ev G call it e = .ok (.its ds, e)) (hz : ds.length < sizeLine)
    (h : ∀ d ∈ ds, ∃ b, ev G call ifs (e.set i (.sh d)) = .ok (.val (.sh (.bl b)), e.set i (.sh d)) ∧ (b = false → g d = none) ∧ (b = true → ∃ s y, ev G call x (e.set i (.sh d)) = .ok (.val s, e.set i (.sh d)) ∧ s.d = some y ∧ g d = some y)) :
    ev G call (.lc [i] (.tN i) it ifs x) e = .ok (.val (.ow (.lst (ds.filterMap g))), e) := by
  have hi := (List.getElem?_eq_some_iff.mp hs).1
  have hn : noOw e [i] = true := by
    unfold noOw
    simp only [List.all_cons, List.all_nil, Bool.and_true, hs]
  have key : ∃ e', lcL (fun d e1 => match take (.tN i) d (wipeE e1 [i]) with
      | some e2 => (tstOf (ev G call ifs e2)).bind fun r => if r.1 = true then (valOf (ev G call x r.2)).bind fun s => (ofO s.1.d).bind fun y => .ok (.opt (some y), s.2) else .ok (.opt none, r.2)
      | none => .bad) ds e = .ok (ds.filterMap g, e') ∧ (∃ t, e' = e.set i t) := by
    refine lcL_map (P := fun e1 => ∃ t, e1 = e.set i t) (fun d hd e1 ⟨t, e1e⟩ => ?_) ⟨s0, (by have := set_set_same hs s0; rw [List.set_set] at this; exact this.symm)⟩
    subst e1e
    obtain ⟨b, h1, h2, h3⟩ := h d hd
    have ht : take (.tN i) d (wipeE (e.set i t) [i]) = some (e.set i (.sh d)) := by
      show (if i < ((e.set i t).set i .un).length then some (((e.set i t).set i .un).set i (.sh d)) else none) = _
      rw [List.set_set, List.set_set, if_pos (by rw [List.length_set]; exact hi)]
    simp only [ht, h1, tstOf_bl, Res.bind_ok]
    cases b with
    | false => exact ⟨_, by rw [h2 rfl]; rfl, _, rfl⟩
    | true =>
      obtain ⟨s, y, h4, h5, h6⟩ := h3 rfl
      exact ⟨e.set i (.sh d), by simp only [h4, valOf_val, Res.bind_ok, h5, ofO_some, h6, if_true], _, rfl⟩
  obtain ⟨e', k1, t, rfl⟩ := key
  rw [ev, hit]
  simp only [itsOf_its, Res.bind_ok, hn, if_true]
  refine Eq.trans (congrArg (fun r : Res (List D × Env) => r.bind fun p => if p.1.length < sizeLine then Res.ok (Out.val (.ow (.lst p.1)), rest e p.2 [i]) else .bad) k1) ?_
  have hl : (ds.filterMap g).length < sizeLine := Nat.lt_of_le_of_lt (List.length_filterMap_le _ _) hz
  simp only [Res.bind_ok, hl, if_true]
  have hr : rest e (e.set i t) [i] = e := by
    unfold rest
    rw [hs]
    exact set_set_same hs t
  rw [hr]
/-- a loop that ends, with what holds at each turn -/
theorem forL_inv {step : D → Env → R} {P : List D → Env → Prop} : ∀ {ds : List D} {e : Env}, (∀ d r e, P (d :: r) e → ∃ e', step d e = .ok (.fl .nx, e') ∧ P r e') → P ds e → ∃ e', forL step ds e = .ok (.fl .nx, e') ∧ P [] e'
  | [], e, _, p => ⟨e, rfl, p⟩
  | d :: ds, e, h, p => by
    obtain ⟨e1, h1, p1⟩ := h d ds e p
    obtain ⟨e2, h2, p2⟩ := forL_inv (ds := ds) h p1
    exact ⟨e2, by rw [forL, h1]; exact h2, p2⟩
/-- _law_box -/
def boxC : I := .lc [1] (.tN 1) (.itV (.var 0)) .ifN (.blt .abs (.consE (.blt .int_ (.argN 1 .nilE)) .nilE))
def boxB : I := .seq (.ret (.lstE (.consE (.cI 0) (.consE (.cI 0) (.consE (.cI 0) (.consE boxC .nilE)))))) .skip
def boxF : FDef := ⟨1, 2, [true], boxB⟩
def absI (i : Int) : Int := if i < 0 then -i else i
theorem filterMap_int {g : D → Option D} {f : Int → Int} (h : ∀ i, g (.int i) = some (.int (f i))) : ∀ ns : List Int, (ns.map D.int).filterMap g = (ns.map f).map D.int
  | [] => rfl
  | n :: ns => by rw [List.map_cons, List.filterMap_cons_some (h n), filterMap_int h ns]; rfl
def absD : D → Option D
  | .int i => some (.int (absI i))
  | _ => none
theorem run_box {fs : FS} {n j : Nat} (hf : fs.lookup j = some boxF) {ns : List Int} (hz : ns.length ≤ 63) : ∃ B : Box, run G fs (n + 1) j [.sh (.lst (ns.map .int))] = .ok (B.sl, [.sh (.lst (ns.map .int))]) ∧ B.Ok := by
  refine ⟨⟨0, 0, 0, ns.map absI⟩, ?_, Int.le_refl 0, Int.le_refl 0, fun h => absurd h (by simp), (by show (-9 : Int) ≤ 0; decide), fun x hx => ?_⟩
  · have key : ev G (run G fs n) boxC [.sh (.lst (ns.map .int)), .un] = .ok (.val (.ow (.lst ((ns.map D.int).filterMap absD))), [.sh (.lst (ns.map .int)), .un]) := by
      refine ev_lc1 (s0 := .un) rfl (fun d => nofun) ?_ (by rw [List.length_map]; exact Nat.lt_of_le_of_lt hz (by decide +kernel)) fun d hd => ?_
      · simp only [ev, ↓Res.bind_hide, Res.bindC_ok, Res.bindC_ex, flOf_fl, tstOf_bl, argsOf_args, valOf_val, itsOf_its, List.getElem?_cons_zero, List.getElem?_cons_succ, look_nil, look_vl, look_nm, hand_nil, hand_vl, hand_nm, handM_sh, handM_ow, once_nil, once_vl, once_nm, onceM_sh, onceM_ow, isNm, List.any_nil, List.any_cons, back_nil, back_vl, back_nm, backM_sh, backM_ow, vals_nil, vals_vl, d_sh, d_ow, down_sh, down_ow, Option.bind_some, Option.map_some, pIx_0, pIx_4, ixN_4, cop_eq, cop_ne, cop_gt, cop_lt, cop_le, cop_ge, ofO_some, bop_add, bop_sub, uop_sub, pow18, blt_int, blt_len, blt_abs, blt_list, blt_isi, decide_eq_true_eq, ↓reduceIte, decide_false, decide_true, Bool.false_eq_true, List.length_cons, List.length_nil, Nat.zero_add, Nat.reduceAdd, Nat.reduceLeDiff, Nat.reduceEqDiff, Nat.reduceBEq, List.set_cons_zero, List.set_cons_succ, Nat.reduceLT, Bool.not_true, Bool.not_false, Bool.or_false, Bool.false_or, Bool.and_true, Bool.true_and, beq_self_eq_true, eq_self, Int.reduceEq, Int.reduceLT, Int.reduceLE, seqOf]
      · obtain ⟨i, _, rfl⟩ := List.mem_map.mp hd
        exact ⟨true, rfl, nofun, fun _ => ⟨.sh (.int (absI i)), .int (absI i), by simp only [ev, ↓Res.bind_hide, Res.bindC_ok, Res.bindC_ex, flOf_fl, tstOf_bl, argsOf_args, valOf_val, itsOf_its, List.getElem?_cons_zero, List.getElem?_cons_succ, look_nil, look_vl, look_nm, hand_nil, hand_vl, hand_nm, handM_sh, handM_ow, once_nil, once_vl, once_nm, onceM_sh, onceM_ow, isNm, List.any_nil, List.any_cons, back_nil, back_vl, back_nm, backM_sh, backM_ow, vals_nil, vals_vl, d_sh, d_ow, down_sh, down_ow, Option.bind_some, Option.map_some, pIx_0, pIx_4, ixN_4, cop_eq, cop_ne, cop_gt, cop_lt, cop_le, cop_ge, ofO_some, bop_add, bop_sub, uop_sub, pow18, blt_int, blt_len, blt_abs, blt_list, blt_isi, decide_eq_true_eq, ↓reduceIte, decide_false, decide_true, Bool.false_eq_true, List.length_cons, List.length_nil, Nat.zero_add, Nat.reduceAdd, Nat.reduceLeDiff, Nat.reduceEqDiff, Nat.reduceBEq, List.set_cons_zero, List.set_cons_succ, Nat.reduceLT, Bool.not_true, Bool.not_false, Bool.or_false, Bool.false_or, Bool.and_true, Bool.true_and, beq_self_eq_true, eq_self, Int.reduceEq, Int.reduceLT, Int.reduceLE]; rfl, rfl, rfl⟩⟩
    rw [filterMap_int (f := absI) (fun i => rfl)] at key
    refine (run_def hf rfl (e := [.sh (.lst (ns.map .int)), .un]) ?_)
    show ev G (run G fs n) boxB [.sh (.lst (ns.map .int)), .un] = _
    unfold boxB
    have hs : 0 + 1 + 1 + 1 + 1 ≤ sizeLine := by decide +kernel
    have hs' : 4 ≤ sizeLine := by decide +kernel
    simp only [ev, ↓Res.bind_hide, Res.bindC_ok, Res.bindC_ex, flOf_fl, tstOf_bl, argsOf_args, valOf_val, itsOf_its, List.getElem?_cons_zero, List.getElem?_cons_succ, look_nil, look_vl, look_nm, hand_nil, hand_vl, hand_nm, handM_sh, handM_ow, once_nil, once_vl, once_nm, onceM_sh, onceM_ow, isNm, List.any_nil, List.any_cons, back_nil, back_vl, back_nm, backM_sh, backM_ow, vals_nil, vals_vl, d_sh, d_ow, down_sh, down_ow, Option.bind_some, Option.map_some, pIx_0, pIx_4, ixN_4, cop_eq, cop_ne, cop_gt, cop_lt, cop_le, cop_ge, ofO_some, bop_add, bop_sub, uop_sub, pow18, blt_int, blt_len, blt_abs, blt_list, blt_isi, decide_eq_true_eq, ↓reduceIte, decide_false, decide_true, Bool.false_eq_true, List.length_cons, List.length_nil, Nat.zero_add, Nat.reduceAdd, Nat.reduceLeDiff, Nat.reduceEqDiff, Nat.reduceBEq, List.set_cons_zero, List.set_cons_succ, Nat.reduceLT, Bool.not_true, Bool.not_false, Bool.or_false, Bool.false_or, Bool.and_true, Bool.true_and, beq_self_eq_true, eq_self, Int.reduceEq, Int.reduceLT, Int.reduceLE, key, hs']
  · obtain ⟨y, _, rfl⟩ := List.mem_map.mp hx
    unfold absI
    split <;> omega
end
section
variable {G : Sig} {call : Nat → List Sl → Res (Sl × List Sl)}
theorem lcOL_map {step : D → Env → R} {P : Env → Prop} {g : D → Option D} {i : Nat} {ds : List D} (hP : ∀ e, P e → e[i]? = some (.ow (.lst ds))) (h : ∀ d ∈ ds, ∀ e, P e → ∃ e', step d e = .ok (.opt (g d), e') ∧ P e') :
    ∀ (n k : Nat) (e : Env), k ≤ ds.length → ds.length < n + k → P e → ∃ e', lcOL step i n k e = .ok ((ds.drop k).filterMap g, e') ∧ P e'
  | 0, k, e, h0, hn, p => by omega
  | n + 1, k, e, h0, hn, p => by
    cases hd : ds[k]? with
    | none =>
      have hl : ds.length ≤ k := by
        rcases Nat.lt_or_ge k ds.length with z | z
        · rw [List.getElem?_eq_getElem z] at hd; cases hd
        · exact z
      exact ⟨e, by rw [lcOL, hP e p]; simp only [hd]; rw [List.drop_eq_nil_of_le hl]; rfl, p⟩
    | some d =>
      have hk := (List.getElem?_eq_some_iff.mp hd).1
      obtain ⟨e1, h1, p1⟩ := h d (List.mem_of_getElem? hd) e p
      obtain ⟨e2, h2, p2⟩ := lcOL_map hP h n (k + 1) e1 hk (by omega) p1
      have hdr : ds.drop k = d :: ds.drop (k + 1) := by
        rw [List.drop_eq_getElem_cons hk]
        rw [List.getElem?_eq_getElem hk] at hd
        rw [Option.some.inj hd]
      refine ⟨e2, ?_, p2⟩
      rw [lcOL, hP e p, hdr]
      simp only [hd, h1, h2, Res.bind_ok]
      cases hg : g d with
      | none => rw [List.filterMap_cons_none hg]; rfl
      | some y => rw [List.filterMap_cons_some hg]; rfl
/-- .. over a list that name j owns -/
theorem ev_lcO1 {i j : Nat} {ifs x : I} {e : Env} {ds : List D} {g : D → Option D} {s0 : Sl} (hs : e[i]? = some s0) (hno : ∀ d, s0 ≠ .ow d) (hj : e[j]? = some (.ow (.lst ds))) (hij : i ≠ j) (hz : ds.length < sizeLine) (hlim : ds.length < G.lim)
    (h : ∀ d ∈ ds, ∃ b, ev G call ifs (e.set i (.sh d)) = .ok (.val (.sh (.bl b)), e.set i (.sh d)) ∧ (b = false → g d = none) ∧ (b = true → ∃ s y, ev G call x (e.set i (.sh d)) = .ok (.val s, e.set i (.sh d)) ∧ s.d = some y ∧ g d = some y)) :
    ev G call (.lcO [i] j (.tN i) ifs x) e = .ok (.val (.ow (.lst (ds.filterMap g))), e) := by
  have hi := (List.getElem?_eq_some_iff.mp hs).1
  have hn : noOw e [i] = true := by
    unfold noOw
    simp only [List.all_cons, List.all_nil, Bool.and_true, hs]
  have key : ∃ e', lcOL (fun d e1 => match take (.tN i) d (wipeE e1 [i]) with
      | some e2 => (tstOf (ev G call ifs e2)).bind fun r => if r.1 = true then (valOf (ev G call x r.2)).bind fun s => (ofO s.1.d).bind fun y => .ok (.opt (some y), s.2) else .ok (.opt none, r.2)
      | none => .bad) j G.lim 0 e = .ok ((ds.drop 0).filterMap g, e') ∧ (∃ t, e' = e.set i t) := by
    refine lcOL_map (P := fun e1 => ∃ t, e1 = e.set i t) (fun e1 ⟨t, q⟩ => by rw [q, List.getElem?_set_ne hij]; exact hj) (fun d hd e1 ⟨t, e1e⟩ => ?_) _ _ _ (Nat.zero_le _) (by omega) ⟨s0, (by have := set_set_same hs s0; rw [List.set_set] at this; exact this.symm)⟩
    subst e1e
    obtain ⟨b, h1, h2, h3⟩ := h d hd
    have ht : take (.tN i) d (wipeE (e.set i t) [i]) = some (e.set i (.sh d)) := by
      show (if i < ((e.set i t).set i .un).length then some (((e.set i t).set i .un).set i (.sh d)) else none) = _
      rw [List.set_set, List.set_set, if_pos (by rw [List.length_set]; exact hi)]
    simp only [ht, h1, tstOf_bl, Res.bind_ok]
    cases b with
    | false => exact ⟨_, by rw [h2 rfl]; rfl, _, rfl⟩
    | true =>
      obtain ⟨s, y, h4, h5, h6⟩ := h3 rfl
      exact ⟨e.set i (.sh d), by simp only [h4, valOf_val, Res.bind_ok, h5, ofO_some, h6, if_true], _, rfl⟩
  obtain ⟨e', k1, t, rfl⟩ := key
  rw [ev, hj]
  simp only [hn, if_true]
  refine Eq.trans (congrArg (fun r : Res (List D × Env) => r.bind fun p => if p.1.length < sizeLine then Res.ok (Out.val (.ow (.lst p.1)), rest e p.2 [i]) else .bad) k1) ?_
  rw [List.drop_zero]
  have hl : (ds.filterMap g).length < sizeLine := Nat.lt_of_le_of_lt (List.length_filterMap_le _ _) hz
  simp only [Res.bind_ok, hl, if_true]
  have hr : rest e (e.set i t) [i] = e := by
    unfold rest
    rw [hs]
    exact set_set_same hs t
  rw [hr]
end
end RF


/-! RFV: words for the plain laws -/
namespace RF
open PySem PySem.Spec PyProof.Rows L2
/-! ### loops, pieces -/
/-- _law_pick -/
def Fn.law_pick.b : I :=
  (.seq (.ret (.ixe (.argN 1 (.consE (.call 1 (.argN 0 (.consE (.blt .len (.argN 1 .nilE)) .nilE))) .nilE))))
  .skip)
def Fn.law_pick : FDef := ⟨2, 2, [true, true], Fn.law_pick.b⟩
section
variable {G : Sig} {call : Nat → List Sl → Res (Sl × List Sl)}
abbrev fSt (G : Sig) (call : Nat → List Sl → Res (Sl × List Sl)) (t b : I) (d : D) (e : Env) : R := match take t d e with
  | some e2 => ev G call b e2
  | none => .bad
theorem ev_forS {t it b : I} {e e1 : Env} {ds : List D} (hi : ev G call it e = .ok (.its ds, e1)) : ev G call (.forS t it b) e = forL (fSt G call t b) ds e1 := by
  rw [ev, hi] <;> rfl
theorem ev_forSh {i : Nat} {t b : I} {e : Env} {d : D} {ds : List D} (hi : e[i]? = some (.sh d)) (hs : seqOf d = some ds) : ev G call (.forO i t b) e = forL (fSt G call t b) ds e := by
  rw [ev, hi]; simp only [hs, ofO_some, Res.bind_ok] <;> rfl
/-- a loop, turn by turn: it goes on with Inv or hands back with Ex -/
theorem forL_gen {step : D → Env → R} {Inv : List D → List D → Env → Prop} {Ex : Sl → Env → Prop} : ∀ {post pre : List D} {e : Env},
    (∀ pre d post e, Inv pre (d :: post) e → (∃ e', step d e = .ok (.fl .nx, e') ∧ Inv (pre ++ [d]) post e') ∨ ∃ s e', step d e = .ok (.fl (.rt s), e') ∧ Ex s e') → Inv pre post e →
    (∃ e', forL step post e = .ok (.fl .nx, e') ∧ Inv (pre ++ post) [] e') ∨ ∃ s e', forL step post e = .ok (.fl (.rt s), e') ∧ Ex s e'
  | [], pre, e, _, p => .inl ⟨e, rfl, by rw [List.append_nil]; exact p⟩
  | d :: post, pre, e, h, p => by
    rcases h pre d post e p with ⟨e1, h1, p1⟩ | ⟨s, e1, h1, x⟩
    · have q := forL_gen (post := post) h p1
      rw [List.append_assoc, List.singleton_append] at q
      rw [forL, h1]
      exact q
    · exact .inr ⟨s, e1, by rw [forL, h1], x⟩
/-- a loop that looks whether all pass: at the first that does not s is handed back -/
theorem forL_all {step : D → Env → R} {P : Env → Prop} {g : D → Bool} {s : Sl} : ∀ {ds : List D} {e : Env}, (∀ d ∈ ds, ∀ e, P e → ∃ e', step d e = .ok (if g d = true then .fl .nx else .fl (.rt s), e') ∧ P e') → P e →
    ∃ e', forL step ds e = .ok (if ds.all g = true then .fl .nx else .fl (.rt s), e') ∧ P e'
  | [], e, _, p => ⟨e, rfl, p⟩
  | d :: ds, e, h, p => by
    obtain ⟨e1, h1, p1⟩ := h d List.mem_cons_self e p
    cases hg : g d with
    | true =>
      obtain ⟨e2, h2, p2⟩ := forL_all (ds := ds) (fun d hd => h d (List.mem_cons_of_mem _ hd)) p1
      refine ⟨e2, ?_, p2⟩
      rw [hg] at h1
      rw [forL, h1, List.all_cons, hg]
      exact h2
    | false =>
      rw [hg] at h1
      refine ⟨e1, ?_, p1⟩
      rw [forL, h1, List.all_cons, hg]
      rfl
/-- a loop that carries a state -/
theorem forL_st {step : D → Env → R} {α : Type} {P : α → Env → Prop} {f : α → D → α} : ∀ {ds : List D} {a : α} {e : Env}, (∀ d ∈ ds, ∀ a e, P a e → ∃ e', step d e = .ok (.fl .nx, e') ∧ P (f a d) e') → P a e →
    ∃ e', forL step ds e = .ok (.fl .nx, e') ∧ P (ds.foldl f a) e'
  | [], a, e, _, p => ⟨e, rfl, p⟩
  | d :: ds, a, e, h, p => by
    obtain ⟨e1, h1, p1⟩ := h d List.mem_cons_self a e p
    obtain ⟨e2, h2, p2⟩ := forL_st (ds := ds) (fun d hd => h d (List.mem_cons_of_mem _ hd)) p1
    exact ⟨e2, by rw [forL, h1]; exact h2, p2⟩
/-- a loop by the number of turns done -/
theorem forL_nat {step : D → Env → R} {P : Nat → Env → Prop} {N : Nat} {ds : List D} (hN : ds.length = N) {e : Env} (h : ∀ k d e, ds[k]? = some d → P k e → ∃ e', step d e = .ok (.fl .nx, e') ∧ P (k + 1) e') (p : P 0 e) :
    ∃ e', forL step ds e = .ok (.fl .nx, e') ∧ P N e' := by
  subst hN
  have key := forL_gen (step := step) (Inv := fun pre post e => pre ++ post = ds ∧ P pre.length e) (Ex := fun _ _ => False) (pre := []) (post := ds) (e := e) (fun pre d post e ⟨q1, q2⟩ => by
    obtain ⟨e1, h1, h2⟩ := h pre.length d e (by rw [← q1, List.getElem?_append_right (Nat.le_refl _), Nat.sub_self]; rfl) q2
    exact .inl ⟨e1, h1, by rw [List.append_assoc]; exact q1, by rw [List.length_append]; exact h2⟩) ⟨rfl, p⟩
  rcases key with ⟨e', h1, h2, h3⟩ | ⟨_, _, _, q⟩
  · rw [List.append_nil] at h2
    rw [h2] at h3
    exact ⟨e', h1, h3⟩
  · exact q.elim
theorem rng_get {k : Nat} {j : Nat} {d : D} (h : (rngL 0 (k : Int))[j]? = some d) : j < k ∧ d = .int j := by
  unfold rngL at h
  rw [List.getElem?_map] at h
  cases hr : (List.range ((k : Int) - 0).toNat)[j]? with
  | none => rw [hr] at h; cases h
  | some z =>
    rw [hr] at h
    have hj := (List.getElem?_eq_some_iff.mp hr).1
    rw [List.length_range] at hj
    rw [List.getElem?_range hj] at hr
    cases hr
    refine ⟨by omega, ?_⟩
    have := (Option.some.inj h).symm
    rw [this]
    show D.int (0 + (j : Int)) = _
    rw [Int.zero_add]
theorem len_rngL (k : Int) : (rngL 0 k).length = k.toNat := by
  unfold rngL
  rw [List.length_map, List.length_range, Int.sub_zero]
theorem mem_rngL {d : D} {k : Nat} (h : d ∈ rngL 0 (k : Int)) : ∃ j : Nat, j < k ∧ d = .int j := by
  obtain ⟨i, hi⟩ := List.getElem?_of_mem h
  obtain ⟨h1, h2⟩ := rng_get hi
  exact ⟨i, h1, h2⟩
theorem inI' {i : Int} (h0 : -1000000 ≤ i) (h : i ≤ 1000000) : inI62 i = true := decide_eq_true (by omega)
theorem rgB' {i : Int} (h0 : -1000000 ≤ i) (h : i ≤ 1000000) : rgB 0 i = true := by
  unfold rgB
  rw [inI' h0 h, inI' (by decide) (by decide)]
  exact decide_eq_true (by omega)
theorem sz {n : Nat} (h : n ≤ 100000) : n ≤ sizeLine := Nat.le_trans h (by decide +kernel)
theorem sz' {n : Nat} (h : n ≤ 100000) : n < sizeLine := Nat.lt_of_le_of_lt h (by decide +kernel)
/-- a def that hands back -/
theorem run_rt {fs : FS} {n f : Nat} {F : FDef} [hf : Has fs f F] {ss : List Sl} {s : Sl} {e : Env} {os : List Sl} (hl : ss.length = F.np) (h : ev G (run G fs n) F.body (ss ++ List.replicate (F.ns - F.np) .un) = .ok (.fl (.rt s), e)) (ho : outs F.fix ss e = os) :
    run G fs (n + 1) f ss = .ok (s, os) := by
  rw [← ho]; exact run_def hf.e hl h
theorem run_nx {fs : FS} {n f : Nat} {F : FDef} [hf : Has fs f F] {ss : List Sl} {e : Env} {os : List Sl} (hl : ss.length = F.np) (h : ev G (run G fs n) F.body (ss ++ List.replicate (F.ns - F.np) .un) = .ok (.fl .nx, e)) (ho : outs F.fix ss e = os) :
    run G fs (n + 1) f ss = .ok (.sh .non, os) := by
  rw [run, hf.e]
  simp only [hl, if_true, h]
  rw [ho]
theorem run_ex {fs : FS} {n f : Nat} {F : FDef} [hf : Has fs f F] {ss : List Sl} {c : Str} (hl : ss.length = F.np) (h : ev G (run G fs n) F.body (ss ++ List.replicate (F.ns - F.np) .un) = .ex c) : run G fs (n + 1) f ss = .ex c := by
  rw [run, hf.e]
  simp only [hl, if_true, h]
/-- lengths, truth, isinstance -/
theorem blt_lenT {ds : List D} : pBlt .len [.tup ds] = some (.sh (.int ds.length)) := rfl
theorem blt_tupL {ds : List D} : pBlt .tuple_ [.lst ds] = some (.sh (.tup ds)) := rfl
theorem tr_bl {b : Bool} : D.truth (.bl b) = some b := rfl
theorem tr_tup {ds : List D} : D.truth (.tup ds) = some !ds.isEmpty := rfl
theorem tr_lst {ds : List D} : D.truth (.lst ds) = some !ds.isEmpty := rfl
theorem isi_int {i : Int} : isiD (.int i) "int" = some true ∧ isiD (.int i) "bool" = some false ∧ isiD (.int i) "tuple" = some false ∧ isiD (.int i) "list" = some false ∧ isiD (.int i) "str" = some false := ⟨rfl, rfl, rfl, rfl, rfl⟩
theorem isi_tup {ds : List D} : isiD (.tup ds) "tuple" = some true ∧ isiD (.tup ds) "int" = some false ∧ isiD (.tup ds) "bool" = some false ∧ isiD (.tup ds) "list" = some false ∧ isiD (.tup ds) "str" = some false := ⟨rfl, rfl, rfl, rfl, rfl⟩
theorem isi_lst {ds : List D} : isiD (.lst ds) "list" = some true ∧ isiD (.lst ds) "int" = some false ∧ isiD (.lst ds) "tuple" = some false ∧ isiD (.lst ds) "str" = some false := ⟨rfl, rfl, rfl, rfl⟩
theorem isi_bl {b : Bool} : isiD (.bl b) "bool" = some true ∧ isiD (.bl b) "int" = some true ∧ isiD (.bl b) "tuple" = some false ∧ isiD (.bl b) "str" = some false := ⟨rfl, rfl, rfl, rfl⟩
theorem isi_str {s : Str} : isiD (.str s) "str" = some true ∧ isiD (.str s) "int" = some false ∧ isiD (.str s) "tuple" = some false := ⟨rfl, rfl, rfl⟩
theorem isi_non : isiD .non "int" = some false ∧ isiD .non "tuple" = some false ∧ isiD .non "str" = some false ∧ isiD .non "bool" = some false := ⟨rfl, rfl, rfl, rfl⟩
/-- plain at its top -/
def isW : D → Bool
  | .int _ => true
  | _ => false
def isT : D → Bool
  | .tup _ => true
  | _ => false
theorem isT_tup {ds : List D} : isT (.tup ds) = true := rfl
theorem isi_whole {x : D} {m : Nat} (h : x.pl m = true) : ∃ a b, isiD x "int" = some a ∧ isiD x "bool" = some b ∧ (a && !b) = isW x := by
  cases x <;> first | exact ⟨_, _, rfl, rfl, rfl⟩ | (cases m <;> exact nomatch (show false = true from h))
theorem isi_isT {x : D} {m : Nat} (h : x.pl m = true) : isiD x "tuple" = some (isT x) := by
  cases x <;> first | rfl | (cases m <;> exact nomatch (show false = true from h))
theorem pIx_nat {ds : List D} {k : Nat} {d : D} (h : ds[k]? = some d) : pIx (.tup ds) (.int k) = some (.sh d) := by
  show (atI ds k).map Sl.sh = _
  rw [atI_nat h]; rfl
theorem pIx_natL {ds : List D} {k : Nat} {d : D} (h : ds[k]? = some d) : pIx (.lst ds) (.int k) = some (.sh d) := by
  show (atI ds k).map Sl.sh = _
  rw [atI_nat h]; rfl
theorem pIx_int {ds : List D} {k : Int} {d : D} (h0 : 0 ≤ k) (h : ds[k.toNat]? = some d) : pIx (.tup ds) (.int k) = some (.sh d) := by
  have q := pIx_nat h
  rwa [Int.toNat_of_nonneg h0] at q
theorem pIx_intL {ds : List D} {k : Int} {d : D} (h0 : 0 ≤ k) (h : ds[k.toNat]? = some d) : pIx (.lst ds) (.int k) = some (.sh d) := by
  have q := pIx_natL h
  rwa [Int.toNat_of_nonneg h0] at q
theorem run_pick {fs : FS} {n : Nat} [hT : Has fs 1 takeF] [Has fs 2 Fn.law_pick] {menu : Sl} {ds : List D} {B : Box} (hm : menu = .ow (.lst ds) ∨ menu = .sh (.lst ds)) (h : B.Ok) (h0 : 0 < ds.length) (h1 : ds.length < 1000000) :
    ∃ (r : Nat) (d : D) (B' : Box), run G fs (n + 1 + 1) 2 [B.sl, menu] = .ok (.sh d, [B'.sl, menu]) ∧ ds[r]? = some d ∧ B'.Ok := by
  obtain ⟨r, B', h2, dr⟩ := run_take (G := G) (fs := fs) (n := n) hT.e (B := B) (m := (ds.length : Int)) h (by omega) (by omega)
  have hr : r.toNat < ds.length := by have := dr.r0; have := dr.rm; omega
  have hx : ds[r.toNat]? = some ds[r.toNat] := List.getElem?_eq_getElem hr
  refine ⟨r.toNat, ds[r.toNat], B', run_rt (F := Fn.law_pick) (e := [B'.sl, menu]) rfl ?_ ?_, hx, dr.ok⟩
  · show ev G (run G fs (n + 1)) Fn.law_pick.b [B.sl, menu] = _
    unfold Fn.law_pick.b
    rcases hm with rfl | rfl <;> simp only [ev, ↓Res.bind_hide, Res.bindC_ok, Res.bindC_ex, flOf_fl, tstOf_bl, argsOf_args, valOf_val, itsOf_its, List.getElem?_cons_zero, List.getElem?_cons_succ, look_nil, look_vl, look_nm, hand_nil, hand_vl, hand_nm, handM_sh, handM_ow, once_nil, once_vl, once_nm, onceM_sh, onceM_ow, isNm, List.any_nil, List.any_cons, back_nil, back_vl, back_nm, backM_sh, backM_ow, vals_nil, vals_vl, d_sh, d_ow, down_sh, down_ow, Option.bind_some, Option.map_some, pIx_0, pIx_4, ixN_4, cop_eq, cop_ne, cop_gt, cop_lt, cop_le, cop_ge, ofO_some, bop_add, bop_sub, uop_sub, pow18, blt_int, blt_len, blt_abs, blt_list, blt_isi, decide_eq_true_eq, ↓reduceIte, decide_false, decide_true, Bool.false_eq_true, List.length_cons, List.length_nil, Nat.zero_add, Nat.reduceAdd, Nat.reduceLeDiff, Nat.reduceEqDiff, Nat.reduceBEq, List.set_cons_zero, List.set_cons_succ, Nat.reduceLT, Bool.not_true, Bool.not_false, Bool.or_false, Bool.false_or, Bool.and_true, Bool.true_and, beq_self_eq_true, eq_self, Int.reduceEq, Int.reduceLT, Int.reduceLE, h2, pIx_intL dr.r0 hx]
  · rcases hm with rfl | rfl <;> rfl
end
/-! ### blocks -/
section
variable {G : Sig} {call : Nat → List Sl → Res (Sl × List Sl)} {a b : I} {e : Env} {s : Sl} {c : Str}
/-- what goes on behind a statement -/
def seqK (G : Sig) (call : Nat → List Sl → Res (Sl × List Sl)) (b : I) (r : R) : R := (flOf r).bind fun q => match q.1 with
  | .nx => ev G call b q.2
  | f => .ok (.fl f, q.2)
theorem ev_seqK : ev G call (.seq a b) e = seqK G call b (ev G call a e) := by
  rw [ev, seqK] <;> rfl
theorem seqK_nx : seqK G call b (.ok (.fl .nx, e)) = ev G call b e := by
  rw [seqK, flOf_fl] <;> rfl
theorem seqK_rt : seqK G call b (.ok (.fl (.rt s), e)) = .ok (.fl (.rt s), e) := by
  rw [seqK, flOf_fl] <;> rfl
theorem seqK_bk : seqK G call b (.ok (.fl .bk, e)) = .ok (.fl .bk, e) := by
  rw [seqK, flOf_fl] <;> rfl
theorem seqK_ct : seqK G call b (.ok (.fl .ct, e)) = .ok (.fl .ct, e) := by
  rw [seqK, flOf_fl] <;> rfl
theorem seqK_ex : seqK G call b (.ex c) = .ex c := by
  rw [seqK] <;> rfl
end
/-! ### what is handed back -/
section
variable {G : Sig} {call : Nat → List Sl → Res (Sl × List Sl)}
/-- s is handed back -/
def Rt (r : R) (s : Sl) : Prop := ∃ e, r = .ok (.fl (.rt s), e)
theorem Rt_ok {s t : Sl} {e : Env} : Rt (.ok (.fl (.rt s), e)) t = (s = t) := by
  refine propext ⟨fun ⟨e', h⟩ => ?_, fun h => ⟨e, by rw [h]⟩⟩
  cases h; rfl
def isSh : Sl → Bool
  | .sh _ => true
  | _ => false
theorem outs_shM : ∀ {ss : List Sl}, ss.all isSh = true → (ss.map fun s => match s with | .ow _ => Sl.mv | s => s) = ss
  | [], _ => rfl
  | s :: ss, h => by
    rw [List.all_cons, Bool.and_eq_true] at h
    rw [List.map_cons, outs_shM h.2]
    cases s <;> first | rfl | exact nomatch (show false = true from h.1)
theorem outs_sh : ∀ {ss : List Sl} (bs : List Bool) (e : Env), ss.all isSh = true → outs bs ss e = ss
  | [], bs, e, _ => by cases bs <;> first | rfl | (rename_i b bs; cases b <;> rfl)
  | s :: ss, bs, e, h => by
    have m := outs_shM h
    rw [List.all_cons, Bool.and_eq_true] at h
    obtain ⟨h1, h2⟩ := h
    cases s with
    | sh d =>
      cases bs with
      | nil => exact m
      | cons b bs =>
        cases e with
        | nil => cases b <;> exact m
        | cons z e => cases b <;> (show (Sl.sh d) :: outs bs ss e = _; rw [outs_sh bs e h2])
    | un => exact nomatch (show false = true from h1)
    | mv => exact nomatch (show false = true from h1)
    | ow _ => exact nomatch (show false = true from h1)
theorem run_sh {fs : FS} {n f : Nat} {F : FDef} [hf : Has fs f F] {ss : List Sl} {s : Sl} (hl : ss.length = F.np) (ha : ss.all isSh = true) (h : Rt (ev G (run G fs n) F.body (ss ++ List.replicate (F.ns - F.np) .un)) s) : run G fs (n + 1) f ss = .ok (s, ss) := by
  obtain ⟨e, h⟩ := h
  exact run_rt hl h (outs_sh _ _ ha)
theorem run_shN {fs : FS} {n f : Nat} {F : FDef} [hf : Has fs f F] {ss : List Sl} {e : Env} (hl : ss.length = F.np) (ha : ss.all isSh = true) (h : ev G (run G fs n) F.body (ss ++ List.replicate (F.ns - F.np) .un) = .ok (.fl .nx, e)) : run G fs (n + 1) f ss = .ok (.sh .non, ss) :=
  run_nx hl h (outs_sh _ _ ha)
theorem pls_mem {n : Nat} : ∀ {ds : List D}, D.pls n ds = true → ∀ d ∈ ds, d.pl n = true
  | [], _, d, h => by cases h
  | x :: ds, h, d, hd => by
    have h' : (D.pl n x && D.pls n ds) = true := by cases n <;> exact h
    rw [Bool.and_eq_true] at h'
    rcases List.mem_cons.mp hd with rfl | hd
    · exact h'.1
    · exact pls_mem h'.2 d hd
theorem pls_of {n : Nat} : ∀ {ds : List D}, (∀ d ∈ ds, d.pl n = true) → D.pls n ds = true
  | [], _ => by cases n <;> rfl
  | x :: ds, h => by
    have q : (D.pl n x && D.pls n ds) = true := by rw [h x List.mem_cons_self, pls_of fun d hd => h d (List.mem_cons_of_mem _ hd)]; rfl
    cases n <;> exact q
theorem pl_tup {n : Nat} {ds : List D} : D.pl (n + 1) (.tup ds) = D.pls n ds := rfl
theorem pl_lst {n : Nat} {ds : List D} : D.pl (n + 1) (.lst ds) = D.pls n ds := rfl
theorem pl_non {n : Nat} : D.pl n .non = true := by cases n <;> rfl
mutual
theorem pl_up : ∀ {n : Nat} {d : D}, d.pl n = true → d.pl (n + 1) = true
  | n, .non, _ => pl_non
  | n, .bl _, _ => pl_bl
  | n, .int _, _ => pl_int
  | n, .str s, h => by cases n <;> exact h
  | n + 1, .tup xs, h => pls_up (n := n) h
  | n + 1, .lst xs, h => pls_up (n := n) h
  | 0, .tup _, h => nomatch (show false = true from h)
  | 0, .lst _, h => nomatch (show false = true from h)
  | 0, .dic _, h => nomatch (show false = true from h)
  | n + 1, .dic _, h => nomatch (show false = true from h)
  | 0, .ty _, h => nomatch (show false = true from h)
  | n + 1, .ty _, h => nomatch (show false = true from h)
  | 0, .opq _, h => nomatch (show false = true from h)
  | n + 1, .opq _, h => nomatch (show false = true from h)
theorem pls_up : ∀ {n : Nat} {ds : List D}, D.pls n ds = true → D.pls (n + 1) ds = true
  | n, [], _ => rfl
  | n, x :: xs, h => by
    have h' : (D.pl n x && D.pls n xs) = true := by cases n <;> exact h
    rw [Bool.and_eq_true] at h'
    show (D.pl (n + 1) x && D.pls (n + 1) xs) = true
    rw [pl_up h'.1, pls_up h'.2]; rfl
end
theorem pl_le {n m : Nat} (h : n ≤ m) {d : D} (hd : d.pl n = true) : d.pl m = true := by
  induction h with
  | refl => exact hd
  | step _ ih => exact pl_up ih
end
section
variable {G : Sig} {call : Nat → List Sl → Res (Sl × List Sl)}
theorem itR_arg {i : Nat} {j : Int} {e : Env} (h : e[i]? = some (.sh (.int j))) (hj : inI62 j = true) : ev G call (.itR (.argN i .nilE)) e = .ok (.its (rngL 0 j), e) := by
  simp only [ev, ↓Res.bind_hide, Res.bindC_ok, Res.bindC_ex, flOf_fl, tstOf_bl, argsOf_args, valOf_val, itsOf_its, List.getElem?_cons_zero, List.getElem?_cons_succ, look_nil, look_vl, look_nm, hand_nil, hand_vl, hand_nm, handM_sh, handM_ow, once_nil, once_vl, once_nm, onceM_sh, onceM_ow, isNm, List.any_nil, List.any_cons, back_nil, back_vl, back_nm, backM_sh, backM_ow, vals_nil, vals_vl, d_sh, d_ow, down_sh, down_ow, Option.bind_some, Option.map_some, pIx_0, pIx_4, ixN_4, cop_eq, cop_ne, cop_gt, cop_lt, cop_le, cop_ge, ofO_some, bop_add, bop_sub, uop_sub, pow18, blt_int, blt_len, blt_abs, blt_list, blt_isi, decide_eq_true_eq, ↓reduceIte, decide_false, decide_true, Bool.false_eq_true, List.length_cons, List.length_nil, Nat.zero_add, Nat.reduceAdd, Nat.reduceLeDiff, Nat.reduceEqDiff, Nat.reduceBEq, List.set_cons_zero, List.set_cons_succ, Nat.reduceLT, Bool.not_true, Bool.not_false, Bool.or_false, Bool.false_or, Bool.and_true, Bool.true_and, beq_self_eq_true, eq_self, Int.reduceEq, Int.reduceLT, Int.reduceLE, h, hj]
theorem itR_val {a : I} {j : Int} {e e1 : Env} (h : valOf (ev G call a e) = .ok (.sh (.int j), e1)) (hj : inI62 j = true) : ev G call (.itR (.consE a .nilE)) e = .ok (.its (rngL 0 j), e1) := by
  rw [ev, ev, h]
  simp only [ev, ↓Res.bind_hide, Res.bindC_ok, Res.bindC_ex, flOf_fl, tstOf_bl, argsOf_args, valOf_val, itsOf_its, List.getElem?_cons_zero, List.getElem?_cons_succ, look_nil, look_vl, look_nm, hand_nil, hand_vl, hand_nm, handM_sh, handM_ow, once_nil, once_vl, once_nm, onceM_sh, onceM_ow, isNm, List.any_nil, List.any_cons, back_nil, back_vl, back_nm, backM_sh, backM_ow, vals_nil, vals_vl, d_sh, d_ow, down_sh, down_ow, Option.bind_some, Option.map_some, pIx_0, pIx_4, ixN_4, cop_eq, cop_ne, cop_gt, cop_lt, cop_le, cop_ge, ofO_some, bop_add, bop_sub, uop_sub, pow18, blt_int, blt_len, blt_abs, blt_list, blt_isi, decide_eq_true_eq, ↓reduceIte, decide_false, decide_true, Bool.false_eq_true, List.length_cons, List.length_nil, Nat.zero_add, Nat.reduceAdd, Nat.reduceLeDiff, Nat.reduceEqDiff, Nat.reduceBEq, List.set_cons_zero, List.set_cons_succ, Nat.reduceLT, Bool.not_true, Bool.not_false, Bool.or_false, Bool.false_or, Bool.and_true, Bool.true_and, beq_self_eq_true, eq_self, Int.reduceEq, Int.reduceLT, Int.reduceLE, hj]
end
section
variable {c : Str} {e : Env} {x y : D} {r : List D}
theorem valOf_ex : valOf (.ex c) = .ex c := rfl
theorem argsOf_ex : argsOf (.ex c) = .ex c := rfl
theorem tstOf_ex : tstOf (.ex c) = .ex c := rfl
theorem flOf_ex : flOf (.ex c) = .ex c := rfl
theorem itsOf_ex : itsOf (.ex c) = .ex c := rfl
theorem pT0 : pIx (.tup (x :: r)) (.int 0) = some (.sh x) := pIx_nat (k := 0) rfl
theorem pT1 : pIx (.tup (x :: y :: r)) (.int 1) = some (.sh y) := pIx_nat (k := 1) rfl
theorem lenT1 : pBlt .len [.tup [x]] = some (.sh (.int 1)) := rfl
theorem lenT2 : pBlt .len [.tup [x, y]] = some (.sh (.int 2)) := rfl
end
/-! ### lists of whole numbers -/
theorem pls_ints {n : Nat} (ns : List Int) : D.pls n (ns.map D.int) = true := pls_of fun d hd => by
  obtain ⟨i, _, rfl⟩ := List.mem_map.mp hd
  exact pl_int
theorem eqvs_ints : ∀ ns ms : List Int, D.eqvs (ns.map D.int) (ms.map D.int) = decide (ns = ms)
  | [], [] => rfl
  | [], _ :: _ => rfl
  | _ :: _, [] => rfl
  | x :: xs, y :: ys => by
    rw [List.map_cons, List.map_cons, D.eqvs, eqvs_ints xs ys, D.eqv]
    by_cases h : x = y
    · subst h; simp
    · simp [h]
theorem in_intsB {i : Int} {ns : List Int} : ((ns.map D.int).any fun y => D.eqv y (.int i)) = decide (i ∈ ns) := by
  rw [List.any_map, Bool.eq_iff_iff, List.any_eq_true, decide_eq_true_eq]
  constructor
  · rintro ⟨x, h1, h2⟩
    have e : x = i := by simpa [D.eqv] using h2
    exact e ▸ h1
  · exact fun h => ⟨i, h, by simp [D.eqv]⟩
theorem flat_ints (ns : List Int) : (ns.map D.int).all D.flat = true := by
  rw [List.all_map, List.all_eq_true]
  exact fun _ _ => rfl
theorem in_ints {i : Int} {ns : List Int} : pCop .In (.int i) (.lst (ns.map D.int)) = some (decide (i ∈ ns)) := by
  show (if ((D.int i).flat && (ns.map D.int).all D.flat) = true then some ((ns.map D.int).any fun y => D.eqv y (.int i)) else _) = _
  rw [flat_ints, in_intsB]
  rfl
theorem notin_ints {i : Int} {ns : List Int} : pCop .NotIn (.int i) (.lst (ns.map D.int)) = some (!decide (i ∈ ns)) := by
  show (if ((D.int i).flat && (ns.map D.int).all D.flat) = true then some ((ns.map D.int).any fun y => D.eqv y (.int i)) else _).map (!·) = _
  rw [flat_ints, in_intsB]
  rfl
theorem in_intsT {i : Int} {ns : List Int} : pCop .In (.int i) (.tup (ns.map D.int)) = some (decide (i ∈ ns)) := by
  show (if ((D.int i).flat && (ns.map D.int).all D.flat) = true then some ((ns.map D.int).any fun y => D.eqv y (.int i)) else _) = _
  rw [flat_ints, in_intsB]
  rfl
theorem notin_intsT {i : Int} {ns : List Int} : pCop .NotIn (.int i) (.tup (ns.map D.int)) = some (!decide (i ∈ ns)) := by
  show (if ((D.int i).flat && (ns.map D.int).all D.flat) = true then some ((ns.map D.int).any fun y => D.eqv y (.int i)) else _).map (!·) = _
  rw [flat_ints, in_intsB]
  rfl
theorem intsOf_ints : ∀ ns : List Int, intsOf (ns.map D.int) = some ns
  | [] => rfl
  | n :: ns => by rw [List.map_cons, intsOf, intsOf_ints ns]; rfl
theorem sorted_ints {ns : List Int} (h : ns.length < 64) : pBlt .sorted_ [.lst (ns.map .int)] = some (.ow (.lst ((isort ns).map .int))) := by
  show (if (ns.map D.int).length < 64 then (intsOf (ns.map D.int)).map fun ns => Sl.ow (.lst ((isort ns).map .int)) else none) = _
  rw [List.length_map, if_pos h, intsOf_ints]
  rfl
theorem mem_ins {x y : Int} : ∀ {l : List Int}, y ∈ ins x l ↔ y = x ∨ y ∈ l
  | [] => by simp [ins]
  | z :: l => by
    rw [ins]
    split
    · simp
    · rw [List.mem_cons, mem_ins (l := l), List.mem_cons]
      constructor
      · rintro (h | h | h)
        · exact .inr (.inl h)
        · exact .inl h
        · exact .inr (.inr h)
      · rintro (h | h | h)
        · exact .inr (.inl h)
        · exact .inl h
        · exact .inr (.inr h)
theorem mem_isort {y : Int} : ∀ {l : List Int}, y ∈ isort l ↔ y ∈ l
  | [] => Iff.rfl
  | x :: l => by rw [isort, mem_ins, mem_isort (l := l), List.mem_cons]
theorem len_ins {x : Int} : ∀ {l : List Int}, (ins x l).length = l.length + 1
  | [] => rfl
  | z :: l => by
    rw [ins]
    split
    · rfl
    · rw [List.length_cons, len_ins (l := l), List.length_cons]
theorem len_isort : ∀ {l : List Int}, (isort l).length = l.length
  | [] => rfl
  | x :: l => by rw [isort, len_ins, len_isort (l := l), List.length_cons]
theorem ins_lt {x : Int} : ∀ {l : List Int}, l.Pairwise (· < ·) → x ∉ l → (ins x l).Pairwise (· < ·)
  | [], _, _ => List.pairwise_singleton _ _
  | z :: l, h, hx => by
    rw [List.pairwise_cons] at h
    have hz : x ≠ z := fun e => hx (e ▸ List.mem_cons_self)
    have hxl : x ∉ l := fun m => hx (List.mem_cons_of_mem _ m)
    rw [ins]
    split
    · rename_i hle
      rw [List.pairwise_cons, List.pairwise_cons]
      exact ⟨fun y hy => by
        rcases List.mem_cons.mp hy with rfl | hy
        · omega
        · have := h.1 y hy; omega, h⟩
    · rename_i hle
      rw [List.pairwise_cons]
      exact ⟨fun y hy => by
        rcases mem_ins.mp hy with rfl | hy
        · omega
        · exact h.1 y hy, ins_lt h.2 hxl⟩
theorem isort_lt : ∀ {l : List Int}, l.Nodup → (isort l).Pairwise (· < ·)
  | [], _ => .nil
  | x :: l, h => by
    rw [List.nodup_cons] at h
    exact ins_lt (isort_lt h.2) fun m => h.1 (mem_isort.mp m)
/-- two strictly rising lists of the same members are one -/
theorem lt_ext : ∀ {l m : List Int}, l.Pairwise (· < ·) → m.Pairwise (· < ·) → (∀ x, x ∈ l ↔ x ∈ m) → l = m
  | [], [], _, _, _ => rfl
  | [], y :: m, _, _, h => absurd ((h y).mpr List.mem_cons_self) (by simp)
  | x :: l, [], _, _, h => absurd ((h x).mp List.mem_cons_self) (by simp)
  | x :: l, y :: m, hl, hm, h => by
    rw [List.pairwise_cons] at hl hm
    have e : x = y := by
      rcases List.mem_cons.mp ((h x).mp List.mem_cons_self) with e | e
      · exact e
      · rcases List.mem_cons.mp ((h y).mpr List.mem_cons_self) with e2 | e2
        · exact e2.symm
        · have := hl.1 y e2; have := hm.1 x e; omega
    subst e
    rw [lt_ext hl.2 hm.2 fun z => ⟨fun hz => ?_, fun hz => ?_⟩]
    · rcases List.mem_cons.mp ((h z).mp (List.mem_cons_of_mem _ hz)) with e | e
      · have := hl.1 z hz; omega
      · exact e
    · rcases List.mem_cons.mp ((h z).mpr (List.mem_cons_of_mem _ hz)) with e | e
      · have := hm.1 z hz; omega
      · exact e
/-! ### equality, cuts -/
mutual
theorem eqv_self : ∀ {n : Nat} {d : D}, d.pl n = true → D.eqv d d = true
  | n, .non, _ => rfl
  | n, .bl b, _ => by show (b == b) = true; exact beq_self_eq_true b
  | n, .int i, _ => by show (i == i) = true; exact beq_self_eq_true i
  | n, .str s, _ => by show (s == s) = true; exact beq_self_eq_true s
  | n + 1, .tup xs, h => eqvs_self (n := n) h
  | n + 1, .lst xs, h => eqvs_self (n := n) h
  | 0, .tup _, h => nomatch (show false = true from h)
  | 0, .lst _, h => nomatch (show false = true from h)
  | 0, .dic _, h => nomatch (show false = true from h)
  | n + 1, .dic _, h => nomatch (show false = true from h)
  | 0, .ty _, h => nomatch (show false = true from h)
  | n + 1, .ty _, h => nomatch (show false = true from h)
  | 0, .opq _, h => nomatch (show false = true from h)
  | n + 1, .opq _, h => nomatch (show false = true from h)
theorem eqvs_self : ∀ {n : Nat} {ds : List D}, D.pls n ds = true → D.eqvs ds ds = true
  | n, [], _ => rfl
  | n, x :: xs, h => by
    have h' : (D.pl n x && D.pls n xs) = true := by cases n <;> exact h
    rw [Bool.and_eq_true] at h'
    show (D.eqv x x && D.eqvs xs xs) = true
    rw [eqv_self h'.1, eqvs_self h'.2]; rfl
end
theorem cop_eq_self {d : D} {n : Nat} (h : d.pl n = true) (hn : n ≤ 40) : pCop .Eq d d = some true := by
  have q := pl_le hn h
  rw [cop_eqD q q, eqv_self h]
theorem cop_ne_self {d : D} {n : Nat} (h : d.pl n = true) (hn : n ≤ 40) : pCop .NotEq d d = some false := by
  have q := pl_le hn h
  rw [cop_neD q q, eqv_self h]; rfl
theorem cut_to {α : Type} {xs : List α} {k : Nat} (h : k ≤ xs.length) : cutL xs none (some (k : Int)) = xs.take k := by
  unfold cutL
  have e1 : HT.sIx xs.length 0 none = 0 := rfl
  have e2 : HT.sIx xs.length xs.length (some (k : Int)) = k := by
    unfold HT.sIx
    simp only
    split <;> first | omega | (split <;> omega)
  rw [e1, e2]
  simp
theorem cut_from {α : Type} {xs : List α} {k : Nat} (h : k ≤ xs.length) : cutL xs (some (k : Int)) none = xs.drop k := by
  unfold cutL
  have e1 : HT.sIx xs.length xs.length none = xs.length := rfl
  have e2 : HT.sIx xs.length 0 (some (k : Int)) = k := by
    unfold HT.sIx
    simp only
    split <;> first | omega | (split <;> omega)
  rw [e1, e2]
  exact List.take_of_length_le (by rw [List.length_drop]; exact Nat.le_refl _)
theorem sl_to {xs : List D} {k : Nat} (h : k ≤ xs.length) : pSl (.tup xs) none (some (k : Int)) = some (.sh (.tup (xs.take k))) := by
  show some (Sl.sh (.tup (cutL xs none (some (k : Int))))) = _
  rw [cut_to h]
theorem sl_from {xs : List D} {k : Nat} (h : k ≤ xs.length) : pSl (.tup xs) (some (k : Int)) none = some (.sh (.tup (xs.drop k))) := by
  show some (Sl.sh (.tup (cutL xs (some (k : Int)) none))) = _
  rw [cut_from h]
theorem add_tup {xs ys : List D} (h : xs.length + ys.length ≤ sizeLine) : pBop .Add (.tup xs) (.tup ys) = some (.sh (.tup (xs ++ ys))) := by
  show (if xs.length + ys.length ≤ sizeLine then slV (.tup (xs ++ ys)) else none) = _
  rw [if_pos h]; rfl
theorem eq_strs {a b : Str} (ha : PyData.strOk a = true) (hb : PyData.strOk b = true) : pCop .NotEq (.str a) (.str b) = some (!(a == b)) := cop_neD ha hb
end RF


/-! LS: letters, words, demands (spd) -/
namespace RF
open PySem PySem.Spec PyProof.Rows L2
/-- is_whole -/
def Fn.is_whole.b : I :=
  (.seq (.ret (.vand (.blt .isinstance (.argN 0 (.consE (.bty "int") .nilE))) (.vnot (.blt .isinstance (.argN 0 (.consE (.bty "bool") .nilE))))))
  .skip)
def Fn.is_whole : FDef := ⟨1, 1, [true], Fn.is_whole.b⟩
/-- is_within -/
def Fn.is_within.b : I :=
  (.seq (.ret (.vand (.call 4 (.argN 0 .nilE)) (.chn .LtE .LtE (.var 1) (.var 0) (.var 2))))
  .skip)
def Fn.is_within : FDef := ⟨3, 3, [true, true, true], Fn.is_within.b⟩
/-- has -/
def Fn.has.b : I :=
  (.seq (.ret (.cop .Eq (.consE (.bop .Mod (.consE (.bop .FloorDiv (.argN 0 (.consE (.ixe (.consE (.glo 0) (.argN 1 .nilE))) .nilE))) (.consE (.cI 2) .nilE))) (.consE (.cI 1) .nilE))))
  .skip)
def Fn.has : FDef := ⟨2, 2, [true, true], Fn.has.b⟩
/-- is_state -/
def Fn.is_state.s0 : I := (.ifS (.tor (.tnot (.tv (.blt .isinstance (.argN 0 (.consE (.bty "tuple") .nilE))))) (.tcp .NotEq (.consE (.blt .len (.argN 0 .nilE)) (.consE (.cI 2) .nilE))))
  (.seq (.ret (.cB false))
  .skip)
  .skip)
def Fn.is_state.s1 : I := (.asg (.tT (.tCons (.tN 3) (.tCons (.tN 4) .tNil))) (.var 0))
def Fn.is_state.s2 : I := (.ifS (.tor (.tnot (.tv (.blt .isinstance (.argN 3 (.consE (.bty "tuple") .nilE))))) (.tor (.tnot (.tv (.blt .isinstance (.argN 4 (.consE (.bty "tuple") .nilE))))) (.tcp .NotEq (.consE (.blt .len (.argN 4 .nilE)) (.argN 1 .nilE)))))
  (.seq (.ret (.cB false))
  .skip)
  .skip)
def Fn.is_state.f0 : I := (.forO 4 (.tN 5)
  (.seq (.ifS (.tnot (.tv (.call 5 (.argN 5 (.consE (.uop .USub (.consE (.cI 1) .nilE)) (.consE (.bop .Sub (.argN 2 (.consE (.cI 1) .nilE))) .nilE))))))
  (.seq (.ret (.cB false))
  .skip)
  .skip)
  .skip))
def Fn.is_state.s3 : I := Fn.is_state.f0
def Fn.is_state.s4 : I := (.asg (.tN 6) (.uop .USub (.consE (.cI 1) .nilE)))
def Fn.is_state.f1 : I := (.forS (.tN 8) (.itR (.argN 1 .nilE))
  (.seq (.ifS (.tand (.tv (.call 6 (.argN 7 (.argN 8 .nilE)))) (.tcp .Lt (.consE (.ixe (.argN 4 (.argN 8 .nilE))) (.consE (.cI 0) .nilE))))
  (.seq (.ret (.cB false))
  .skip)
  .skip)
  .skip))
def Fn.is_state.f2 : I := (.forO 3 (.tN 7)
  (.seq (.ifS (.tor (.tnot (.tv (.call 5 (.argN 7 (.consE (.cI 0) (.consE (.bop .Sub (.consE (.ixe (.consE (.glo 1) (.argN 1 .nilE))) (.consE (.cI 1) .nilE))) .nilE)))))) (.tcp .LtE (.argN 7 (.argN 6 .nilE))))
  (.seq (.ret (.cB false))
  .skip)
  .skip)
  (.seq Fn.is_state.f1
  (.seq (.asg (.tN 6) (.var 7))
  .skip))))
def Fn.is_state.s5 : I := Fn.is_state.f2
def Fn.is_state.s6 : I := (.ret (.cB true))
def Fn.is_state.b : I :=
  (.seq Fn.is_state.s0 (.seq Fn.is_state.s1 (.seq Fn.is_state.s2 (.seq Fn.is_state.s3 (.seq Fn.is_state.s4 (.seq Fn.is_state.s5 (.seq Fn.is_state.s6 .skip)))))))
def Fn.is_state : FDef := ⟨3, 9, [true, true, true], Fn.is_state.b⟩
/-- is_demand -/
def Fn.is_demand.s0 : I := (.ifS (.tor (.tnot (.tv (.blt .isinstance (.argN 0 (.consE (.bty "tuple") .nilE))))) (.tor (.tcp .NotEq (.consE (.blt .len (.argN 0 .nilE)) (.consE (.cI 2) .nilE))) (.tnot (.tv (.call 5 (.consE (.ixe (.argN 0 (.consE (.cI 0) .nilE))) (.consE (.cI 0) (.consE (.glo 2) .nilE))))))))
  (.seq (.ret (.cB false))
  .skip)
  .skip)
def Fn.is_demand.s1 : I := (.asg (.tN 1) (.ixe (.argN 0 (.consE (.cI 1) .nilE))))
def Fn.is_demand.s2 : I := (.ifS (.tor (.tnot (.tv (.blt .isinstance (.argN 1 (.consE (.bty "tuple") .nilE))))) (.tnot (.tch .LtE .LtE (.cI 1) (.blt .len (.argN 1 .nilE)) (.glo 3))))
  (.seq (.ret (.cB false))
  .skip)
  .skip)
def Fn.is_demand.f0 : I := (.forO 1 (.tN 2)
  (.seq (.ifS (.tnot (.tv (.call 7 (.argN 2 (.consE (.ixe (.argN 0 (.consE (.cI 0) .nilE))) (.consE (.blt .len (.argN 1 .nilE)) .nilE))))))
  (.seq (.ret (.cB false))
  .skip)
  .skip)
  .skip))
def Fn.is_demand.s3 : I := Fn.is_demand.f0
def Fn.is_demand.s4 : I := (.ret (.cB true))
def Fn.is_demand.b : I :=
  (.seq Fn.is_demand.s0 (.seq Fn.is_demand.s1 (.seq Fn.is_demand.s2 (.seq Fn.is_demand.s3 (.seq Fn.is_demand.s4 .skip)))))
def Fn.is_demand : FDef := ⟨1, 3, [true], Fn.is_demand.b⟩
/-- check_demand -/
def Fn.check_demand.b : I :=
  (.seq (.ifS (.tnot (.tv (.call 8 (.argN 0 .nilE))))
  (.seq (.raiseS "BadDemand")
  .skip)
  .skip)
  .skip)
def Fn.check_demand : FDef := ⟨1, 1, [true], Fn.check_demand.b⟩
/-- state_after -/
def Fn.state_after.s0 : I := (.asg (.tN 2) (.cI 0))
def Fn.state_after.f0 : I := (.forO 1 (.tN 3)
  (.seq (.ifS (.tcp .GtE (.argN 2 (.consE (.cI 0) .nilE)))
  (.seq (.asg (.tN 2) (.ixe (.consE (.ixe (.consE (.ixe (.consE (.ixe (.argN 0 (.consE (.cI 1) .nilE))) (.argN 2 .nilE))) (.consE (.cI 1) .nilE))) (.argN 3 .nilE))))
  .skip)
  .skip)
  .skip))
def Fn.state_after.s1 : I := Fn.state_after.f0
def Fn.state_after.s2 : I := (.ret (.mov 2))
def Fn.state_after.b : I :=
  (.seq Fn.state_after.s0 (.seq Fn.state_after.s1 (.seq Fn.state_after.s2 .skip)))
def Fn.state_after : FDef := ⟨2, 4, [true, true], Fn.state_after.b⟩
/-- are_letters -/
def Fn.are_letters.s0 : I := (.ifS (.tnot (.tv (.blt .isinstance (.argN 0 (.consE (.bty "tuple") .nilE)))))
  (.seq (.ret (.cB false))
  .skip)
  .skip)
def Fn.are_letters.f0 : I := (.forO 0 (.tN 2)
  (.seq (.ifS (.tnot (.tv (.call 5 (.argN 2 (.consE (.cI 0) (.consE (.bop .Sub (.argN 1 (.consE (.cI 1) .nilE))) .nilE))))))
  (.seq (.ret (.cB false))
  .skip)
  .skip)
  .skip))
def Fn.are_letters.s1 : I := Fn.are_letters.f0
def Fn.are_letters.s2 : I := (.ret (.cB true))
def Fn.are_letters.b : I :=
  (.seq Fn.are_letters.s0 (.seq Fn.are_letters.s1 (.seq Fn.are_letters.s2 .skip)))
def Fn.are_letters : FDef := ⟨2, 3, [true, true], Fn.are_letters.b⟩
/-- is_word -/
def Fn.is_word.b : I :=
  (.seq (.ret (.vand (.call 11 (.argN 0 (.argN 1 .nilE))) (.cop .LtE (.consE (.blt .len (.argN 0 .nilE)) (.consE (.glo 4) .nilE)))))
  .skip)
def Fn.is_word : FDef := ⟨2, 2, [true, true], Fn.is_word.b⟩
/-- led_to -/
def Fn.led_to.s0 : I := (.exs (.call 9 (.argN 0 .nilE)))
def Fn.led_to.s1 : I := (.ifS (.tnot (.tv (.call 12 (.argN 1 (.consE (.ixe (.argN 0 (.consE (.cI 0) .nilE))) .nilE)))))
  (.seq (.raiseS "BadWord")
  .skip)
  .skip)
def Fn.led_to.s2 : I := (.ret (.call 10 (.argN 0 (.argN 1 .nilE))))
def Fn.led_to.b : I :=
  (.seq Fn.led_to.s0 (.seq Fn.led_to.s1 (.seq Fn.led_to.s2 .skip)))
def Fn.led_to : FDef := ⟨2, 2, [true, true], Fn.led_to.b⟩
/-- anything -/
def Fn.anything.b : I :=
  (.seq (.ret (.tupE (.consE (.var 0) (.consE (.tupE (.consE (.tupE (.consE (.tupR (.consE (.ixe (.consE (.glo 1) (.argN 0 .nilE))) .nilE)) (.consE (.bop .Mult (.consE (.tupE (.consE (.cI 0) .nilE)) (.argN 0 .nilE))) .nilE))) .nilE)) .nilE))))
  .skip)
def Fn.anything : FDef := ⟨1, 1, [true], Fn.anything.b⟩
/-- nothing -/
def Fn.nothing.b : I :=
  (.seq (.ret (.tupE (.consE (.var 0) (.consE (.tupE (.consE (.tupE (.consE (.tupE .nilE) (.consE (.bop .Mult (.consE (.tupE (.consE (.uop .USub (.consE (.cI 1) .nilE)) .nilE)) (.argN 0 .nilE))) .nilE))) .nilE)) .nilE))))
  .skip)
def Fn.nothing : FDef := ⟨1, 1, [true], Fn.nothing.b⟩
section
variable {G : Sig} {fs : FS} {n : Nat}
section
variable [Has fs 4 Fn.is_whole]
theorem run_is_whole {x : D} {m : Nat} (h : x.pl m = true) : run G fs (n + 1) 4 [.sh x] = .ok (.sh (.bl (isW x)), [.sh x]) := by
  refine run_sh (F := Fn.is_whole) rfl rfl ?_
  show Rt (ev G _ Fn.is_whole.b [.sh x]) _
  obtain ⟨a, b, h1, h2, h3⟩ := isi_whole h
  unfold Fn.is_whole.b
  rw [← h3]
  cases a <;> simp only [ev, ↓Res.bind_hide, Res.bindC_ok, Res.bindC_ex, flOf_fl, tstOf_bl, argsOf_args, valOf_val, itsOf_its, List.getElem?_cons_zero, List.getElem?_cons_succ, look_nil, look_vl, look_nm, hand_nil, hand_vl, hand_nm, handM_sh, handM_ow, once_nil, once_vl, once_nm, onceM_sh, onceM_ow, isNm, List.any_nil, List.any_cons, back_nil, back_vl, back_nm, backM_sh, backM_ow, vals_nil, vals_vl, d_sh, d_ow, down_sh, down_ow, Option.bind_some, Option.map_some, pIx_0, pIx_4, ixN_4, cop_eq, cop_ne, cop_gt, cop_lt, cop_le, cop_ge, ofO_some, bop_add, bop_sub, uop_sub, pow18, blt_int, blt_len, blt_abs, blt_list, blt_isi, decide_eq_true_eq, ↓reduceIte, decide_false, decide_true, Bool.false_eq_true, List.length_cons, List.length_nil, Nat.zero_add, Nat.reduceAdd, Nat.reduceLeDiff, Nat.reduceEqDiff, Nat.reduceBEq, List.set_cons_zero, List.set_cons_succ, Nat.reduceLT, Bool.not_true, Bool.not_false, Bool.or_false, Bool.false_or, Bool.and_true, Bool.true_and, beq_self_eq_true, eq_self, ↓ev_seqK, seqK_nx, seqK_rt, seqK_bk, seqK_ct, seqK_ex, tr_bl, Rt_ok, isT_tup, valOf_ex, argsOf_ex, tstOf_ex, flOf_ex, itsOf_ex, pT0, pT1, Int.reduceEq, Int.reduceLT, Int.reduceLE, h1, h2] <;> cases b <;> rfl
def wi (x : D) (lo hi : Int) : Bool := match x with
  | .int i => decide (lo ≤ i) && decide (i ≤ hi)
  | _ => false
theorem wi_isW {x : D} {lo hi : Int} (h : isW x = false) : wi x lo hi = false := by cases x <;> first | rfl | cases h
theorem wi_int {x : D} {lo hi : Int} (h : wi x lo hi = true) : ∃ i, x = .int i ∧ lo ≤ i ∧ i ≤ hi := by
  cases x <;> first | (exact nomatch (show false = true from h)) | skip
  rename_i i
  have h' : (decide (lo ≤ i) && decide (i ≤ hi)) = true := h
  rw [Bool.and_eq_true, decide_eq_true_eq, decide_eq_true_eq] at h'
  exact ⟨i, rfl, h'.1, h'.2⟩
variable [Has fs 5 Fn.is_within]
theorem run_is_within {x : D} {m : Nat} {lo hi : Int} (h : x.pl m = true) : run G fs (n + 1 + 1) 5 [.sh x, .sh (.int lo), .sh (.int hi)] = .ok (.sh (.bl (wi x lo hi)), [.sh x, .sh (.int lo), .sh (.int hi)]) := by
  refine run_sh (F := Fn.is_within) rfl rfl ?_
  show Rt (ev G _ Fn.is_within.b [.sh x, .sh (.int lo), .sh (.int hi)]) _
  have hw := run_is_whole (G := G) (fs := fs) (n := n) h
  unfold Fn.is_within.b
  cases hx : isW x with
  | false =>
    rw [hx] at hw
    rw [wi_isW hx]
    simp only [ev, ↓Res.bind_hide, Res.bindC_ok, Res.bindC_ex, flOf_fl, tstOf_bl, argsOf_args, valOf_val, itsOf_its, List.getElem?_cons_zero, List.getElem?_cons_succ, look_nil, look_vl, look_nm, hand_nil, hand_vl, hand_nm, handM_sh, handM_ow, once_nil, once_vl, once_nm, onceM_sh, onceM_ow, isNm, List.any_nil, List.any_cons, back_nil, back_vl, back_nm, backM_sh, backM_ow, vals_nil, vals_vl, d_sh, d_ow, down_sh, down_ow, Option.bind_some, Option.map_some, pIx_0, pIx_4, ixN_4, cop_eq, cop_ne, cop_gt, cop_lt, cop_le, cop_ge, ofO_some, bop_add, bop_sub, uop_sub, pow18, blt_int, blt_len, blt_abs, blt_list, blt_isi, decide_eq_true_eq, ↓reduceIte, decide_false, decide_true, Bool.false_eq_true, List.length_cons, List.length_nil, Nat.zero_add, Nat.reduceAdd, Nat.reduceLeDiff, Nat.reduceEqDiff, Nat.reduceBEq, List.set_cons_zero, List.set_cons_succ, Nat.reduceLT, Bool.not_true, Bool.not_false, Bool.or_false, Bool.false_or, Bool.and_true, Bool.true_and, beq_self_eq_true, eq_self, ↓ev_seqK, seqK_nx, seqK_rt, seqK_bk, seqK_ct, seqK_ex, tr_bl, Rt_ok, isT_tup, valOf_ex, argsOf_ex, tstOf_ex, flOf_ex, itsOf_ex, pT0, pT1, Int.reduceEq, Int.reduceLT, Int.reduceLE, hw]
  | true =>
    cases x <;> first | (exact nomatch (show false = true from hx)) | skip
    rename_i i
    rw [hx] at hw
    show Rt _ (.sh (.bl (decide (lo ≤ i) && decide (i ≤ hi))))
    by_cases h1 : lo ≤ i
    · simp only [ev, ↓Res.bind_hide, Res.bindC_ok, Res.bindC_ex, flOf_fl, tstOf_bl, argsOf_args, valOf_val, itsOf_its, List.getElem?_cons_zero, List.getElem?_cons_succ, look_nil, look_vl, look_nm, hand_nil, hand_vl, hand_nm, handM_sh, handM_ow, once_nil, once_vl, once_nm, onceM_sh, onceM_ow, isNm, List.any_nil, List.any_cons, back_nil, back_vl, back_nm, backM_sh, backM_ow, vals_nil, vals_vl, d_sh, d_ow, down_sh, down_ow, Option.bind_some, Option.map_some, pIx_0, pIx_4, ixN_4, cop_eq, cop_ne, cop_gt, cop_lt, cop_le, cop_ge, ofO_some, bop_add, bop_sub, uop_sub, pow18, blt_int, blt_len, blt_abs, blt_list, blt_isi, decide_eq_true_eq, ↓reduceIte, decide_false, decide_true, Bool.false_eq_true, List.length_cons, List.length_nil, Nat.zero_add, Nat.reduceAdd, Nat.reduceLeDiff, Nat.reduceEqDiff, Nat.reduceBEq, List.set_cons_zero, List.set_cons_succ, Nat.reduceLT, Bool.not_true, Bool.not_false, Bool.or_false, Bool.false_or, Bool.and_true, Bool.true_and, beq_self_eq_true, eq_self, ↓ev_seqK, seqK_nx, seqK_rt, seqK_bk, seqK_ct, seqK_ex, tr_bl, Rt_ok, isT_tup, valOf_ex, argsOf_ex, tstOf_ex, flOf_ex, itsOf_ex, pT0, pT1, Int.reduceEq, Int.reduceLT, Int.reduceLE, hw, h1]
    · simp only [ev, ↓Res.bind_hide, Res.bindC_ok, Res.bindC_ex, flOf_fl, tstOf_bl, argsOf_args, valOf_val, itsOf_its, List.getElem?_cons_zero, List.getElem?_cons_succ, look_nil, look_vl, look_nm, hand_nil, hand_vl, hand_nm, handM_sh, handM_ow, once_nil, once_vl, once_nm, onceM_sh, onceM_ow, isNm, List.any_nil, List.any_cons, back_nil, back_vl, back_nm, backM_sh, backM_ow, vals_nil, vals_vl, d_sh, d_ow, down_sh, down_ow, Option.bind_some, Option.map_some, pIx_0, pIx_4, ixN_4, cop_eq, cop_ne, cop_gt, cop_lt, cop_le, cop_ge, ofO_some, bop_add, bop_sub, uop_sub, pow18, blt_int, blt_len, blt_abs, blt_list, blt_isi, decide_eq_true_eq, ↓reduceIte, decide_false, decide_true, Bool.false_eq_true, List.length_cons, List.length_nil, Nat.zero_add, Nat.reduceAdd, Nat.reduceLeDiff, Nat.reduceEqDiff, Nat.reduceBEq, List.set_cons_zero, List.set_cons_succ, Nat.reduceLT, Bool.not_true, Bool.not_false, Bool.or_false, Bool.false_or, Bool.and_true, Bool.true_and, beq_self_eq_true, eq_self, ↓ev_seqK, seqK_nx, seqK_rt, seqK_bk, seqK_ct, seqK_ex, tr_bl, Rt_ok, isT_tup, valOf_ex, argsOf_ex, tstOf_ex, flOf_ex, itsOf_ex, pT0, pT1, Int.reduceEq, Int.reduceLT, Int.reduceLE, hw, h1] <;> rfl
end
/-! letters -/
def bit (b : Int) (k : Nat) : Bool := decide (b / 2 ^ k % 2 = 1)
theorem pw_ix : ∀ k : Nat, k < 5 → pIx (.tup [.int 1, .int 2, .int 4, .int 8, .int 16]) (.int k) = some (.sh (.int (2 ^ k)))
  | 0, _ => rfl
  | 1, _ => rfl
  | 2, _ => rfl
  | 3, _ => rfl
  | 4, _ => rfl
theorem pw_ixL : ∀ k : Nat, k < 5 → pIx (.lst [.int 1, .int 2, .int 4, .int 8, .int 16]) (.int k) = some (.sh (.int (2 ^ k)))
  | 0, _ => rfl
  | 1, _ => rfl
  | 2, _ => rfl
  | 3, _ => rfl
  | 4, _ => rfl
theorem pw_ix6 : ∀ k : Nat, k < 6 → pIx (.tup [.int 1, .int 2, .int 4, .int 8, .int 16, .int 32]) (.int k) = some (.sh (.int (2 ^ k)))
  | 0, _ => rfl
  | 1, _ => rfl
  | 2, _ => rfl
  | 3, _ => rfl
  | 4, _ => rfl
  | 5, _ => rfl
theorem pw_ix6L : ∀ k : Nat, k < 6 → pIx (.lst [.int 1, .int 2, .int 4, .int 8, .int 16, .int 32]) (.int k) = some (.sh (.int (2 ^ k)))
  | 0, _ => rfl
  | 1, _ => rfl
  | 2, _ => rfl
  | 3, _ => rfl
  | 4, _ => rfl
  | 5, _ => rfl
theorem pw_div {b : Int} : ∀ k : Nat, k < 5 → pBop .FloorDiv (.int b) (.int (2 ^ k)) = some (.sh (.int (b / 2 ^ k)))
  | 0, _ => rfl
  | 1, _ => rfl
  | 2, _ => rfl
  | 3, _ => rfl
  | 4, _ => rfl
theorem mod2 {i : Int} : pBop .Mod (.int i) (.int 2) = some (.sh (.int (i % 2))) := bop_mod (by decide)
section
variable [Has fs 6 Fn.has] [hP : HasC G 0 (.tup [.int 1, .int 2, .int 4, .int 8, .int 16])]
theorem run_has {b : Int} {k : Nat} (hk : k < 5) : run G fs (n + 1) 6 [.sh (.int b), .sh (.int k)] = .ok (.sh (.bl (bit b k)), [.sh (.int b), .sh (.int k)]) := by
  refine run_sh (F := Fn.has) rfl rfl ?_
  show Rt (ev G _ Fn.has.b [.sh (.int b), .sh (.int k)]) _
  unfold Fn.has.b
  simp only [ev, ↓Res.bind_hide, Res.bindC_ok, Res.bindC_ex, flOf_fl, tstOf_bl, argsOf_args, valOf_val, itsOf_its, List.getElem?_cons_zero, List.getElem?_cons_succ, look_nil, look_vl, look_nm, hand_nil, hand_vl, hand_nm, handM_sh, handM_ow, once_nil, once_vl, once_nm, onceM_sh, onceM_ow, isNm, List.any_nil, List.any_cons, back_nil, back_vl, back_nm, backM_sh, backM_ow, vals_nil, vals_vl, d_sh, d_ow, down_sh, down_ow, Option.bind_some, Option.map_some, pIx_0, pIx_4, ixN_4, cop_eq, cop_ne, cop_gt, cop_lt, cop_le, cop_ge, ofO_some, bop_add, bop_sub, uop_sub, pow18, blt_int, blt_len, blt_abs, blt_list, blt_isi, decide_eq_true_eq, ↓reduceIte, decide_false, decide_true, Bool.false_eq_true, List.length_cons, List.length_nil, Nat.zero_add, Nat.reduceAdd, Nat.reduceLeDiff, Nat.reduceEqDiff, Nat.reduceBEq, List.set_cons_zero, List.set_cons_succ, Nat.reduceLT, Bool.not_true, Bool.not_false, Bool.or_false, Bool.false_or, Bool.and_true, Bool.true_and, beq_self_eq_true, eq_self, ↓ev_seqK, seqK_nx, seqK_rt, seqK_bk, seqK_ct, seqK_ex, tr_bl, Rt_ok, isT_tup, valOf_ex, argsOf_ex, tstOf_ex, flOf_ex, itsOf_ex, pT0, pT1, Int.reduceEq, Int.reduceLT, Int.reduceLE, hP.e, pw_ix k hk, pw_div k hk, mod2]
  rfl
end
/-! demands -/
def intD : D → Int
  | .int i => i
  | _ => 0
def folOk (many : Int) (f : List D) : Bool := f.all fun d => wi d (-1) (many - 1)
def letOk (k : Nat) (b : Int) (f : List D) : Bool := (rngL 0 (k : Int)).all fun a => !(bit b (intD a).toNat && decide (intD (f.getD (intD a).toNat .non) < 0))
def accOk (k : Nat) (f : List D) : Int → List D → Bool
  | _, [] => true
  | b, d :: ds => wi d 0 (2 ^ k - 1) && !decide (intD d ≤ b) && letOk k (intD d) f && accOk k f (intD d) ds
def stOkD (k : Nat) (many : Int) : D → Bool
  | .tup ds => (match ds with
    | [a, f] => (match a, f with
      | .tup a, .tup f => decide (f.length = k) && folOk many f && accOk k f (-1) a
      | _, _ => false)
    | _ => false)
  | _ => false
section
variable [Has fs 4 Fn.is_whole] [Has fs 5 Fn.is_within] [Has fs 6 Fn.has] [Has fs 7 Fn.is_state] [hP : HasC G 0 (.tup [.int 1, .int 2, .int 4, .int 8, .int 16])] [hQ : HasC G 1 (.tup [.int 1, .int 2, .int 4, .int 8, .int 16, .int 32])]
abbrev C2 (G : Sig) (fs : FS) (n : Nat) := run G fs (n + 1 + 1)
theorem is_state_f0 {x a : Sl} {k : Nat} {many : Int} {f : List D} {m : Nat} {y5 y6 y7 y8 : Sl} (hf : D.pls m f = true) :
    ∃ z, ev G (C2 G fs n) Fn.is_state.f0 [x, .sh (.int k), .sh (.int many), a, .sh (.tup f), y5, y6, y7, y8] = .ok (if folOk many f = true then .fl .nx else .fl (.rt (.sh (.bl false))), [x, .sh (.int k), .sh (.int many), a, .sh (.tup f), z, y6, y7, y8]) := by
  have key := forL_all (step := fSt G (C2 G fs n) (.tN 5) (.seq (.ifS (.tnot (.tv (.call 5 (.argN 5 (.consE (.uop .USub (.consE (.cI 1) .nilE)) (.consE (.bop .Sub (.argN 2 (.consE (.cI 1) .nilE))) .nilE)))))) (.seq (.ret (.cB false)) .skip) .skip) .skip))
    (P := fun e => ∃ z, e = [x, .sh (.int k), .sh (.int many), a, .sh (.tup f), z, y6, y7, y8]) (g := fun d => wi d (-1) (many - 1)) (s := .sh (.bl false)) (ds := f) (e := [x, .sh (.int k), .sh (.int many), a, .sh (.tup f), y5, y6, y7, y8]) (fun d hd e ⟨z, he⟩ => by
      subst he
      have hw := run_is_within (G := G) (fs := fs) (n := n) (lo := -1) (hi := many - 1) (pls_mem hf d hd)
      refine ⟨_, ?_, .sh d, rfl⟩
      show ev G (C2 G fs n) _ [x, .sh (.int k), .sh (.int many), a, .sh (.tup f), .sh d, y6, y7, y8] = _
      cases hb : wi d (-1) (many - 1) <;> (rw [hb] at hw; simp only [ev, ↓Res.bind_hide, Res.bindC_ok, Res.bindC_ex, flOf_fl, tstOf_bl, argsOf_args, valOf_val, itsOf_its, List.getElem?_cons_zero, List.getElem?_cons_succ, look_nil, look_vl, look_nm, hand_nil, hand_vl, hand_nm, handM_sh, handM_ow, once_nil, once_vl, once_nm, onceM_sh, onceM_ow, isNm, List.any_nil, List.any_cons, back_nil, back_vl, back_nm, backM_sh, backM_ow, vals_nil, vals_vl, d_sh, d_ow, down_sh, down_ow, Option.bind_some, Option.map_some, pIx_0, pIx_4, ixN_4, cop_eq, cop_ne, cop_gt, cop_lt, cop_le, cop_ge, ofO_some, bop_add, bop_sub, uop_sub, pow18, blt_int, blt_len, blt_abs, blt_list, blt_isi, decide_eq_true_eq, ↓reduceIte, decide_false, decide_true, Bool.false_eq_true, List.length_cons, List.length_nil, Nat.zero_add, Nat.reduceAdd, Nat.reduceLeDiff, Nat.reduceEqDiff, Nat.reduceBEq, List.set_cons_zero, List.set_cons_succ, Nat.reduceLT, Bool.not_true, Bool.not_false, Bool.or_false, Bool.false_or, Bool.and_true, Bool.true_and, beq_self_eq_true, eq_self, ↓ev_seqK, seqK_nx, seqK_rt, seqK_bk, seqK_ct, seqK_ex, tr_bl, Rt_ok, isT_tup, valOf_ex, argsOf_ex, tstOf_ex, flOf_ex, itsOf_ex, pT0, pT1, Int.reduceEq, Int.reduceLT, Int.reduceLE, hw])) ⟨y5, rfl⟩
  obtain ⟨e', h1, z, rfl⟩ := key
  refine ⟨z, ?_⟩
  unfold Fn.is_state.f0
  rw [ev_forSh (i := 4) (ds := f) rfl rfl]
  exact h1
theorem letters_step {x a : Sl} {k : Nat} {many : Int} {f : List D} {y3 y5 : Sl} {b b0 : Int} (hk : k < 6) (hl : f.length = k) (hint : ∀ d ∈ f, ∃ i, d = .int i) {y8 : Sl} :
    ∃ z, ev G (C2 G fs n) Fn.is_state.f1 [x, .sh (.int k), .sh (.int many), y3, .sh (.tup f), y5, .sh (.int b0), .sh (.int b), y8] = .ok (if letOk k b f = true then .fl .nx else .fl (.rt (.sh (.bl false))), [x, .sh (.int k), .sh (.int many), y3, .sh (.tup f), y5, .sh (.int b0), .sh (.int b), z]) := by
  have key := forL_all (step := fSt G (C2 G fs n) (.tN 8) (.seq (.ifS (.tand (.tv (.call 6 (.argN 7 (.argN 8 .nilE)))) (.tcp .Lt (.consE (.ixe (.argN 4 (.argN 8 .nilE))) (.consE (.cI 0) .nilE)))) (.seq (.ret (.cB false)) .skip) .skip) .skip))
    (P := fun e => ∃ z, e = [x, .sh (.int k), .sh (.int many), y3, .sh (.tup f), y5, .sh (.int b0), .sh (.int b), z]) (g := fun a => !(bit b (intD a).toNat && decide (intD (f.getD (intD a).toNat .non) < 0))) (s := .sh (.bl false)) (ds := rngL 0 (k : Int)) (e := [x, .sh (.int k), .sh (.int many), y3, .sh (.tup f), y5, .sh (.int b0), .sh (.int b), y8]) (fun d hd e ⟨z, he⟩ => by
      subst he
      obtain ⟨j, hj, rfl⟩ := mem_rngL hd
      have hh := run_has (G := G) (fs := fs) (n := n + 1) (b := b) (k := j) (by omega)
      have hx : f[j]? = some f[j] := List.getElem?_eq_getElem (by omega)
      obtain ⟨i, hi⟩ := hint f[j] (List.getElem_mem _)
      have hg : f.getD j .non = .int i := by rw [List.getD_eq_getElem?_getD, hx, hi]; rfl
      rw [hi] at hx
      have hix := pIx_nat hx
      refine ⟨_, ?_, .sh (.int j), rfl⟩
      show ev G (C2 G fs n) _ [x, .sh (.int k), .sh (.int many), y3, .sh (.tup f), y5, .sh (.int b0), .sh (.int b), .sh (.int j)] = .ok (if (!(bit b j && decide (intD (f.getD j .non) < 0))) = true then _ else _, _)
      rw [hg]
      show ev G (C2 G fs n) _ [x, .sh (.int k), .sh (.int many), y3, .sh (.tup f), y5, .sh (.int b0), .sh (.int b), .sh (.int j)] = .ok (if (!(bit b j && decide (i < 0))) = true then _ else _, _)
      cases hb : bit b j with
      | false => rw [hb] at hh; simp only [ev, ↓Res.bind_hide, Res.bindC_ok, Res.bindC_ex, flOf_fl, tstOf_bl, argsOf_args, valOf_val, itsOf_its, List.getElem?_cons_zero, List.getElem?_cons_succ, look_nil, look_vl, look_nm, hand_nil, hand_vl, hand_nm, handM_sh, handM_ow, once_nil, once_vl, once_nm, onceM_sh, onceM_ow, isNm, List.any_nil, List.any_cons, back_nil, back_vl, back_nm, backM_sh, backM_ow, vals_nil, vals_vl, d_sh, d_ow, down_sh, down_ow, Option.bind_some, Option.map_some, pIx_0, pIx_4, ixN_4, cop_eq, cop_ne, cop_gt, cop_lt, cop_le, cop_ge, ofO_some, bop_add, bop_sub, uop_sub, pow18, blt_int, blt_len, blt_abs, blt_list, blt_isi, decide_eq_true_eq, ↓reduceIte, decide_false, decide_true, Bool.false_eq_true, List.length_cons, List.length_nil, Nat.zero_add, Nat.reduceAdd, Nat.reduceLeDiff, Nat.reduceEqDiff, Nat.reduceBEq, List.set_cons_zero, List.set_cons_succ, Nat.reduceLT, Bool.not_true, Bool.not_false, Bool.or_false, Bool.false_or, Bool.and_true, Bool.true_and, beq_self_eq_true, eq_self, ↓ev_seqK, seqK_nx, seqK_rt, seqK_bk, seqK_ct, seqK_ex, tr_bl, Rt_ok, isT_tup, valOf_ex, argsOf_ex, tstOf_ex, flOf_ex, itsOf_ex, pT0, pT1, Int.reduceEq, Int.reduceLT, Int.reduceLE, hh, Bool.false_and]
      | true =>
        rw [hb] at hh
        by_cases hi0 : i < 0
        · simp only [ev, ↓Res.bind_hide, Res.bindC_ok, Res.bindC_ex, flOf_fl, tstOf_bl, argsOf_args, valOf_val, itsOf_its, List.getElem?_cons_zero, List.getElem?_cons_succ, look_nil, look_vl, look_nm, hand_nil, hand_vl, hand_nm, handM_sh, handM_ow, once_nil, once_vl, once_nm, onceM_sh, onceM_ow, isNm, List.any_nil, List.any_cons, back_nil, back_vl, back_nm, backM_sh, backM_ow, vals_nil, vals_vl, d_sh, d_ow, down_sh, down_ow, Option.bind_some, Option.map_some, pIx_0, pIx_4, ixN_4, cop_eq, cop_ne, cop_gt, cop_lt, cop_le, cop_ge, ofO_some, bop_add, bop_sub, uop_sub, pow18, blt_int, blt_len, blt_abs, blt_list, blt_isi, decide_eq_true_eq, ↓reduceIte, decide_false, decide_true, Bool.false_eq_true, List.length_cons, List.length_nil, Nat.zero_add, Nat.reduceAdd, Nat.reduceLeDiff, Nat.reduceEqDiff, Nat.reduceBEq, List.set_cons_zero, List.set_cons_succ, Nat.reduceLT, Bool.not_true, Bool.not_false, Bool.or_false, Bool.false_or, Bool.and_true, Bool.true_and, beq_self_eq_true, eq_self, ↓ev_seqK, seqK_nx, seqK_rt, seqK_bk, seqK_ct, seqK_ex, tr_bl, Rt_ok, isT_tup, valOf_ex, argsOf_ex, tstOf_ex, flOf_ex, itsOf_ex, pT0, pT1, Int.reduceEq, Int.reduceLT, Int.reduceLE, hh, hix, hi0]
        · simp only [ev, ↓Res.bind_hide, Res.bindC_ok, Res.bindC_ex, flOf_fl, tstOf_bl, argsOf_args, valOf_val, itsOf_its, List.getElem?_cons_zero, List.getElem?_cons_succ, look_nil, look_vl, look_nm, hand_nil, hand_vl, hand_nm, handM_sh, handM_ow, once_nil, once_vl, once_nm, onceM_sh, onceM_ow, isNm, List.any_nil, List.any_cons, back_nil, back_vl, back_nm, backM_sh, backM_ow, vals_nil, vals_vl, d_sh, d_ow, down_sh, down_ow, Option.bind_some, Option.map_some, pIx_0, pIx_4, ixN_4, cop_eq, cop_ne, cop_gt, cop_lt, cop_le, cop_ge, ofO_some, bop_add, bop_sub, uop_sub, pow18, blt_int, blt_len, blt_abs, blt_list, blt_isi, decide_eq_true_eq, ↓reduceIte, decide_false, decide_true, Bool.false_eq_true, List.length_cons, List.length_nil, Nat.zero_add, Nat.reduceAdd, Nat.reduceLeDiff, Nat.reduceEqDiff, Nat.reduceBEq, List.set_cons_zero, List.set_cons_succ, Nat.reduceLT, Bool.not_true, Bool.not_false, Bool.or_false, Bool.false_or, Bool.and_true, Bool.true_and, beq_self_eq_true, eq_self, ↓ev_seqK, seqK_nx, seqK_rt, seqK_bk, seqK_ct, seqK_ex, tr_bl, Rt_ok, isT_tup, valOf_ex, argsOf_ex, tstOf_ex, flOf_ex, itsOf_ex, pT0, pT1, Int.reduceEq, Int.reduceLT, Int.reduceLE, hh, hix, hi0]) ⟨y8, rfl⟩
  obtain ⟨e', h1, z', rfl⟩ := key
  refine ⟨z', ?_⟩
  unfold Fn.is_state.f1
  rw [ev_forS (itR_arg (i := 1) rfl (inI' (by omega) (by omega)))]
  exact h1
theorem pow_wi {k : Nat} (hk : k < 6) : pBop .Sub (.int (2 ^ k)) (.int 1) = some (.sh (.int (2 ^ k - 1))) := rfl
/-- the accepted sets, one by one -/
theorem is_state_f2 {x : Sl} {k : Nat} {many : Int} {f a : List D} {m : Nat} {y5 y7 y8 : Sl} (hk : k < 6) (hl : f.length = k) (hint : ∀ d ∈ f, ∃ i, d = .int i) (ha : D.pls m a = true) :
    ∃ r b z7 z8, ev G (C2 G fs n) Fn.is_state.f2 [x, .sh (.int k), .sh (.int many), .sh (.tup a), .sh (.tup f), y5, .sh (.int (-1)), y7, y8] = .ok (.fl r, [x, .sh (.int k), .sh (.int many), .sh (.tup a), .sh (.tup f), y5, .sh (.int b), z7, z8]) ∧ r = (if accOk k f (-1) a = true then .nx else .rt (.sh (.bl false))) := by
  have six : pIx (.tup [.int 1, .int 2, .int 4, .int 8, .int 16, .int 32]) (.int k) = some (.sh (.int (2 ^ k))) := pw_ix6 k hk
  obtain ⟨kI, hkI⟩ : ∃ kI : Int, kI = (k : Int) := ⟨_, rfl⟩
  obtain ⟨pI, hpI⟩ : ∃ pI : Int, pI = 2 ^ k := ⟨_, rfl⟩
  rw [← hkI] at six ⊢
  rw [← hpI] at six
  have key := forL_gen (step := fSt G (C2 G fs n) (.tN 7) (.seq (.ifS (.tor (.tnot (.tv (.call 5 (.argN 7 (.consE (.cI 0) (.consE (.bop .Sub (.consE (.ixe (.consE (.glo 1) (.argN 1 .nilE))) (.consE (.cI 1) .nilE))) .nilE)))))) (.tcp .LtE (.argN 7 (.argN 6 .nilE)))) (.seq (.ret (.cB false)) .skip) .skip) (.seq Fn.is_state.f1 (.seq (.asg (.tN 6) (.var 7)) .skip))))
    (Inv := fun pre post e => ∃ b z7 z8, e = [x, .sh (.int kI), .sh (.int many), .sh (.tup a), .sh (.tup f), y5, .sh (.int b), z7, z8] ∧ D.pls m post = true ∧ accOk k f (-1) a = accOk k f b post)
    (Ex := fun s e => s = .sh (.bl false) ∧ accOk k f (-1) a = false ∧ ∃ b z7 z8, e = [x, .sh (.int kI), .sh (.int many), .sh (.tup a), .sh (.tup f), y5, .sh (.int b), z7, z8])
    (pre := []) (post := a) (e := [x, .sh (.int kI), .sh (.int many), .sh (.tup a), .sh (.tup f), y5, .sh (.int (-1)), y7, y8]) (fun pre d post e ⟨b, z7, z8, he, hp, hacc⟩ => by
      subst he
      have hd := pls_mem hp d List.mem_cons_self
      have hp' : D.pls m post = true := pls_of fun c hc => pls_mem hp c (List.mem_cons_of_mem _ hc)
      have hw := run_is_within (G := G) (fs := fs) (n := n) (lo := 0) (hi := pI - 1) hd
      show (∃ e', ev G (C2 G fs n) _ [x, .sh (.int kI), .sh (.int many), .sh (.tup a), .sh (.tup f), y5, .sh (.int b), .sh d, z8] = _ ∧ _) ∨ ∃ s e', ev G (C2 G fs n) _ [x, .sh (.int kI), .sh (.int many), .sh (.tup a), .sh (.tup f), y5, .sh (.int b), .sh d, z8] = _ ∧ _
      have hA : accOk k f b (d :: post) = (wi d 0 (pI - 1) && !decide (intD d ≤ b) && letOk k (intD d) f && accOk k f (intD d) post) := by rw [hpI]; rfl
      cases hb : wi d 0 (pI - 1) with
      | false =>
        rw [hb] at hw hA
        right
        refine ⟨.sh (.bl false), _, by simp only [ev, ↓Res.bind_hide, Res.bindC_ok, Res.bindC_ex, flOf_fl, tstOf_bl, argsOf_args, valOf_val, itsOf_its, List.getElem?_cons_zero, List.getElem?_cons_succ, look_nil, look_vl, look_nm, hand_nil, hand_vl, hand_nm, handM_sh, handM_ow, once_nil, once_vl, once_nm, onceM_sh, onceM_ow, isNm, List.any_nil, List.any_cons, back_nil, back_vl, back_nm, backM_sh, backM_ow, vals_nil, vals_vl, d_sh, d_ow, down_sh, down_ow, Option.bind_some, Option.map_some, pIx_0, pIx_4, ixN_4, cop_eq, cop_ne, cop_gt, cop_lt, cop_le, cop_ge, ofO_some, bop_add, bop_sub, uop_sub, pow18, blt_int, blt_len, blt_abs, blt_list, blt_isi, decide_eq_true_eq, ↓reduceIte, decide_false, decide_true, Bool.false_eq_true, List.length_cons, List.length_nil, Nat.zero_add, Nat.reduceAdd, Nat.reduceLeDiff, Nat.reduceEqDiff, Nat.reduceBEq, List.set_cons_zero, List.set_cons_succ, Nat.reduceLT, Bool.not_true, Bool.not_false, Bool.or_false, Bool.false_or, Bool.and_true, Bool.true_and, beq_self_eq_true, eq_self, ↓ev_seqK, seqK_nx, seqK_rt, seqK_bk, seqK_ct, seqK_ex, tr_bl, Rt_ok, isT_tup, valOf_ex, argsOf_ex, tstOf_ex, flOf_ex, itsOf_ex, pT0, pT1, Int.reduceEq, Int.reduceLT, Int.reduceLE, hQ.e, six, hw] <;> rfl, rfl, by rw [hacc, hA]; rfl, _, _, _, rfl⟩
      | true =>
        rw [hb] at hw hA
        obtain ⟨i, rfl, h1, h2⟩ := wi_int hb
        by_cases hle : i ≤ b
        · right
          refine ⟨.sh (.bl false), _, by simp only [ev, ↓Res.bind_hide, Res.bindC_ok, Res.bindC_ex, flOf_fl, tstOf_bl, argsOf_args, valOf_val, itsOf_its, List.getElem?_cons_zero, List.getElem?_cons_succ, look_nil, look_vl, look_nm, hand_nil, hand_vl, hand_nm, handM_sh, handM_ow, once_nil, once_vl, once_nm, onceM_sh, onceM_ow, isNm, List.any_nil, List.any_cons, back_nil, back_vl, back_nm, backM_sh, backM_ow, vals_nil, vals_vl, d_sh, d_ow, down_sh, down_ow, Option.bind_some, Option.map_some, pIx_0, pIx_4, ixN_4, cop_eq, cop_ne, cop_gt, cop_lt, cop_le, cop_ge, ofO_some, bop_add, bop_sub, uop_sub, pow18, blt_int, blt_len, blt_abs, blt_list, blt_isi, decide_eq_true_eq, ↓reduceIte, decide_false, decide_true, Bool.false_eq_true, List.length_cons, List.length_nil, Nat.zero_add, Nat.reduceAdd, Nat.reduceLeDiff, Nat.reduceEqDiff, Nat.reduceBEq, List.set_cons_zero, List.set_cons_succ, Nat.reduceLT, Bool.not_true, Bool.not_false, Bool.or_false, Bool.false_or, Bool.and_true, Bool.true_and, beq_self_eq_true, eq_self, ↓ev_seqK, seqK_nx, seqK_rt, seqK_bk, seqK_ct, seqK_ex, tr_bl, Rt_ok, isT_tup, valOf_ex, argsOf_ex, tstOf_ex, flOf_ex, itsOf_ex, pT0, pT1, Int.reduceEq, Int.reduceLT, Int.reduceLE, hQ.e, six, hw, hle] <;> rfl, rfl, by rw [hacc, hA]; simp [intD, hle], _, _, _, rfl⟩
        · obtain ⟨z, hz⟩ := letters_step (G := G) (fs := fs) (n := n) (x := x) (many := many) (a := .un) (y3 := .sh (.tup a)) (y5 := y5) (b := i) (b0 := b) hk hl hint (y8 := z8)
          rw [← hkI] at hz
          cases hlo : letOk k i f with
          | false =>
            rw [hlo] at hz
            right
            refine ⟨.sh (.bl false), _, by simp only [ev, ↓Res.bind_hide, Res.bindC_ok, Res.bindC_ex, flOf_fl, tstOf_bl, argsOf_args, valOf_val, itsOf_its, List.getElem?_cons_zero, List.getElem?_cons_succ, look_nil, look_vl, look_nm, hand_nil, hand_vl, hand_nm, handM_sh, handM_ow, once_nil, once_vl, once_nm, onceM_sh, onceM_ow, isNm, List.any_nil, List.any_cons, back_nil, back_vl, back_nm, backM_sh, backM_ow, vals_nil, vals_vl, d_sh, d_ow, down_sh, down_ow, Option.bind_some, Option.map_some, pIx_0, pIx_4, ixN_4, cop_eq, cop_ne, cop_gt, cop_lt, cop_le, cop_ge, ofO_some, bop_add, bop_sub, uop_sub, pow18, blt_int, blt_len, blt_abs, blt_list, blt_isi, decide_eq_true_eq, ↓reduceIte, decide_false, decide_true, Bool.false_eq_true, List.length_cons, List.length_nil, Nat.zero_add, Nat.reduceAdd, Nat.reduceLeDiff, Nat.reduceEqDiff, Nat.reduceBEq, List.set_cons_zero, List.set_cons_succ, Nat.reduceLT, Bool.not_true, Bool.not_false, Bool.or_false, Bool.false_or, Bool.and_true, Bool.true_and, beq_self_eq_true, eq_self, ↓ev_seqK, seqK_nx, seqK_rt, seqK_bk, seqK_ct, seqK_ex, tr_bl, Rt_ok, isT_tup, valOf_ex, argsOf_ex, tstOf_ex, flOf_ex, itsOf_ex, pT0, pT1, Int.reduceEq, Int.reduceLT, Int.reduceLE, hQ.e, six, hw, hle, hz] <;> rfl, rfl, by rw [hacc, hA]; simp [intD, hlo], _, _, _, rfl⟩
          | true =>
            rw [hlo] at hz
            left
            refine ⟨_, by simp only [ev, ↓Res.bind_hide, Res.bindC_ok, Res.bindC_ex, flOf_fl, tstOf_bl, argsOf_args, valOf_val, itsOf_its, List.getElem?_cons_zero, List.getElem?_cons_succ, look_nil, look_vl, look_nm, hand_nil, hand_vl, hand_nm, handM_sh, handM_ow, once_nil, once_vl, once_nm, onceM_sh, onceM_ow, isNm, List.any_nil, List.any_cons, back_nil, back_vl, back_nm, backM_sh, backM_ow, vals_nil, vals_vl, d_sh, d_ow, down_sh, down_ow, Option.bind_some, Option.map_some, pIx_0, pIx_4, ixN_4, cop_eq, cop_ne, cop_gt, cop_lt, cop_le, cop_ge, ofO_some, bop_add, bop_sub, uop_sub, pow18, blt_int, blt_len, blt_abs, blt_list, blt_isi, decide_eq_true_eq, ↓reduceIte, decide_false, decide_true, Bool.false_eq_true, List.length_cons, List.length_nil, Nat.zero_add, Nat.reduceAdd, Nat.reduceLeDiff, Nat.reduceEqDiff, Nat.reduceBEq, List.set_cons_zero, List.set_cons_succ, Nat.reduceLT, Bool.not_true, Bool.not_false, Bool.or_false, Bool.false_or, Bool.and_true, Bool.true_and, beq_self_eq_true, eq_self, ↓ev_seqK, seqK_nx, seqK_rt, seqK_bk, seqK_ct, seqK_ex, tr_bl, Rt_ok, isT_tup, valOf_ex, argsOf_ex, tstOf_ex, flOf_ex, itsOf_ex, pT0, pT1, Int.reduceEq, Int.reduceLT, Int.reduceLE, hQ.e, six, hw, hle, hz] <;> rfl, i, .sh (.int i), z, rfl, hp', by rw [hacc, hA]; simp [intD, hlo, hle]⟩) ⟨-1, y7, y8, rfl, ha, rfl⟩
  unfold Fn.is_state.f2
  rw [ev_forSh (i := 3) (ds := a) rfl rfl]
  rcases key with ⟨e', h1, b, z7, z8, rfl, _, h2⟩ | ⟨s, e', h1, rfl, h2, b, z7, z8, rfl⟩
  · exact ⟨_, b, z7, z8, h1, by rw [h2]; rfl⟩
  · exact ⟨_, b, z7, z8, h1, by rw [h2]; rfl⟩
theorem fol_ints {many : Int} {f : List D} (h : folOk many f = true) : ∀ d ∈ f, ∃ i, d = .int i := fun d hd => by
  obtain ⟨i, hi, _⟩ := wi_int (List.all_eq_true.mp h d hd)
  exact ⟨i, hi⟩
theorem stOkD_T {k : Nat} {many : Int} {x : D} (h : isT x = false) : stOkD k many x = false := by cases x <;> first | rfl | cases h
theorem run_is_state {x : D} {k : Nat} {many : Int} {m : Nat} (h : x.pl m = true) (hk : k < 6) : run G fs (n + 1 + 1 + 1) 7 [.sh x, .sh (.int k), .sh (.int many)] = .ok (.sh (.bl (stOkD k many x)), [.sh x, .sh (.int k), .sh (.int many)]) := by
  refine run_sh (F := Fn.is_state) rfl rfl ?_
  show Rt (ev G (C2 G fs n) Fn.is_state.b [.sh x, .sh (.int k), .sh (.int many), .un, .un, .un, .un, .un, .un]) _
  have hT := isi_isT h
  cases hx : isT x with
  | false =>
    rw [hx] at hT
    rw [stOkD_T hx]
    unfold Fn.is_state.b Fn.is_state.s0
    simp only [ev, ↓Res.bind_hide, Res.bindC_ok, Res.bindC_ex, flOf_fl, tstOf_bl, argsOf_args, valOf_val, itsOf_its, List.getElem?_cons_zero, List.getElem?_cons_succ, look_nil, look_vl, look_nm, hand_nil, hand_vl, hand_nm, handM_sh, handM_ow, once_nil, once_vl, once_nm, onceM_sh, onceM_ow, isNm, List.any_nil, List.any_cons, back_nil, back_vl, back_nm, backM_sh, backM_ow, vals_nil, vals_vl, d_sh, d_ow, down_sh, down_ow, Option.bind_some, Option.map_some, pIx_0, pIx_4, ixN_4, cop_eq, cop_ne, cop_gt, cop_lt, cop_le, cop_ge, ofO_some, bop_add, bop_sub, uop_sub, pow18, blt_int, blt_len, blt_abs, blt_list, blt_isi, decide_eq_true_eq, ↓reduceIte, decide_false, decide_true, Bool.false_eq_true, List.length_cons, List.length_nil, Nat.zero_add, Nat.reduceAdd, Nat.reduceLeDiff, Nat.reduceEqDiff, Nat.reduceBEq, List.set_cons_zero, List.set_cons_succ, Nat.reduceLT, Bool.not_true, Bool.not_false, Bool.or_false, Bool.false_or, Bool.and_true, Bool.true_and, beq_self_eq_true, eq_self, ↓ev_seqK, seqK_nx, seqK_rt, seqK_bk, seqK_ct, seqK_ex, tr_bl, Rt_ok, isT_tup, valOf_ex, argsOf_ex, tstOf_ex, flOf_ex, itsOf_ex, pT0, pT1, Int.reduceEq, Int.reduceLT, Int.reduceLE, hT]
  | true =>
    cases x <;> first | (exact nomatch (show false = true from hx)) | skip
    rename_i ds
    obtain ⟨m, rfl⟩ : ∃ m', m = m' + 1 := by cases m with | zero => exact nomatch (show false = true from h) | succ m => exact ⟨m, rfl⟩
    have hp : D.pls m ds = true := h
    clear hT
    have hT : ∀ ds : List D, isiD (.tup ds) "tuple" = some true := fun _ => rfl
    by_cases h2 : ds.length = 2
    case neg =>
      have e : stOkD k many (.tup ds) = false := by
        match ds, h2 with
        | [], _ => rfl
        | [_], _ => rfl
        | [_, _], h2 => exact absurd rfl h2
        | _ :: _ :: _ :: _, _ => rfl
      have hne : ¬ ((ds.length : Int) = 2) := by omega
      generalize hG : (ds.length : Int) = L at hne
      have hlen : pBlt .len [.tup ds] = some (.sh (.int L)) := by rw [← hG]; rfl
      rw [e]
      unfold Fn.is_state.b Fn.is_state.s0
      simp only [ev, ↓Res.bind_hide, Res.bindC_ok, Res.bindC_ex, flOf_fl, tstOf_bl, argsOf_args, valOf_val, itsOf_its, List.getElem?_cons_zero, List.getElem?_cons_succ, look_nil, look_vl, look_nm, hand_nil, hand_vl, hand_nm, handM_sh, handM_ow, once_nil, once_vl, once_nm, onceM_sh, onceM_ow, isNm, List.any_nil, List.any_cons, back_nil, back_vl, back_nm, backM_sh, backM_ow, vals_nil, vals_vl, d_sh, d_ow, down_sh, down_ow, Option.bind_some, Option.map_some, pIx_0, pIx_4, ixN_4, cop_eq, cop_ne, cop_gt, cop_lt, cop_le, cop_ge, ofO_some, bop_add, bop_sub, uop_sub, pow18, blt_int, blt_len, blt_abs, blt_list, blt_isi, decide_eq_true_eq, ↓reduceIte, decide_false, decide_true, Bool.false_eq_true, List.length_cons, List.length_nil, Nat.zero_add, Nat.reduceAdd, Nat.reduceLeDiff, Nat.reduceEqDiff, Nat.reduceBEq, List.set_cons_zero, List.set_cons_succ, Nat.reduceLT, Bool.not_true, Bool.not_false, Bool.or_false, Bool.false_or, Bool.and_true, Bool.true_and, beq_self_eq_true, eq_self, ↓ev_seqK, seqK_nx, seqK_rt, seqK_bk, seqK_ct, seqK_ex, tr_bl, Rt_ok, isT_tup, valOf_ex, argsOf_ex, tstOf_ex, flOf_ex, itsOf_ex, pT0, pT1, Int.reduceEq, Int.reduceLT, Int.reduceLE, hT, hlen, hne]
    obtain ⟨a, f, rfl⟩ : ∃ a f, ds = [a, f] := by match ds, h2 with | [a, f], _ => exact ⟨a, f, rfl⟩
    have hlen2 : pBlt .len [.tup [a, f]] = some (.sh (.int 2)) := rfl
    have ha := pls_mem hp a List.mem_cons_self
    have hf := pls_mem hp f (List.mem_cons_of_mem _ List.mem_cons_self)
    have hTa := isi_isT ha
    have hTf := isi_isT hf
    have two : ((2 : Nat) : Int) = 2 := rfl
    have s0 : ev G (C2 G fs n) Fn.is_state.s0 [.sh (.tup [a, f]), .sh (.int k), .sh (.int many), .un, .un, .un, .un, .un, .un] = .ok (.fl .nx, [.sh (.tup [a, f]), .sh (.int k), .sh (.int many), .un, .un, .un, .un, .un, .un]) := by
      unfold Fn.is_state.s0
      simp only [ev, ↓Res.bind_hide, Res.bindC_ok, Res.bindC_ex, flOf_fl, tstOf_bl, argsOf_args, valOf_val, itsOf_its, List.getElem?_cons_zero, List.getElem?_cons_succ, look_nil, look_vl, look_nm, hand_nil, hand_vl, hand_nm, handM_sh, handM_ow, once_nil, once_vl, once_nm, onceM_sh, onceM_ow, isNm, List.any_nil, List.any_cons, back_nil, back_vl, back_nm, backM_sh, backM_ow, vals_nil, vals_vl, d_sh, d_ow, down_sh, down_ow, Option.bind_some, Option.map_some, pIx_0, pIx_4, ixN_4, cop_eq, cop_ne, cop_gt, cop_lt, cop_le, cop_ge, ofO_some, bop_add, bop_sub, uop_sub, pow18, blt_int, blt_len, blt_abs, blt_list, blt_isi, decide_eq_true_eq, ↓reduceIte, decide_false, decide_true, Bool.false_eq_true, List.length_cons, List.length_nil, Nat.zero_add, Nat.reduceAdd, Nat.reduceLeDiff, Nat.reduceEqDiff, Nat.reduceBEq, List.set_cons_zero, List.set_cons_succ, Nat.reduceLT, Bool.not_true, Bool.not_false, Bool.or_false, Bool.false_or, Bool.and_true, Bool.true_and, beq_self_eq_true, eq_self, ↓ev_seqK, seqK_nx, seqK_rt, seqK_bk, seqK_ct, seqK_ex, tr_bl, Rt_ok, isT_tup, valOf_ex, argsOf_ex, tstOf_ex, flOf_ex, itsOf_ex, pT0, pT1, Int.reduceEq, Int.reduceLT, Int.reduceLE, hT, hlen2] <;> rfl
    have s1 : ev G (C2 G fs n) Fn.is_state.s1 [.sh (.tup [a, f]), .sh (.int k), .sh (.int many), .un, .un, .un, .un, .un, .un] = .ok (.fl .nx, [.sh (.tup [a, f]), .sh (.int k), .sh (.int many), .sh a, .sh f, .un, .un, .un, .un]) := by
      unfold Fn.is_state.s1
      simp only [ev, ↓Res.bind_hide, Res.bindC_ok, Res.bindC_ex, flOf_fl, tstOf_bl, argsOf_args, valOf_val, itsOf_its, List.getElem?_cons_zero, List.getElem?_cons_succ, look_nil, look_vl, look_nm, hand_nil, hand_vl, hand_nm, handM_sh, handM_ow, once_nil, once_vl, once_nm, onceM_sh, onceM_ow, isNm, List.any_nil, List.any_cons, back_nil, back_vl, back_nm, backM_sh, backM_ow, vals_nil, vals_vl, d_sh, d_ow, down_sh, down_ow, Option.bind_some, Option.map_some, pIx_0, pIx_4, ixN_4, cop_eq, cop_ne, cop_gt, cop_lt, cop_le, cop_ge, ofO_some, bop_add, bop_sub, uop_sub, pow18, blt_int, blt_len, blt_abs, blt_list, blt_isi, decide_eq_true_eq, ↓reduceIte, decide_false, decide_true, Bool.false_eq_true, List.length_cons, List.length_nil, Nat.zero_add, Nat.reduceAdd, Nat.reduceLeDiff, Nat.reduceEqDiff, Nat.reduceBEq, List.set_cons_zero, List.set_cons_succ, Nat.reduceLT, Bool.not_true, Bool.not_false, Bool.or_false, Bool.false_or, Bool.and_true, Bool.true_and, beq_self_eq_true, eq_self, ↓ev_seqK, seqK_nx, seqK_rt, seqK_bk, seqK_ct, seqK_ex, tr_bl, Rt_ok, isT_tup, valOf_ex, argsOf_ex, tstOf_ex, flOf_ex, itsOf_ex, pT0, pT1, Int.reduceEq, Int.reduceLT, Int.reduceLE, take, takes, seqOf] <;> rfl
    unfold Fn.is_state.b
    rw [ev_seq s0, ev_seq s1]
    cases hxa : isT a with
    | false =>
      have e : stOkD k many (.tup [a, f]) = false := by cases a <;> first | rfl | cases hxa
      rw [hxa] at hTa
      rw [e]
      unfold Fn.is_state.s2
      simp only [ev, ↓Res.bind_hide, Res.bindC_ok, Res.bindC_ex, flOf_fl, tstOf_bl, argsOf_args, valOf_val, itsOf_its, List.getElem?_cons_zero, List.getElem?_cons_succ, look_nil, look_vl, look_nm, hand_nil, hand_vl, hand_nm, handM_sh, handM_ow, once_nil, once_vl, once_nm, onceM_sh, onceM_ow, isNm, List.any_nil, List.any_cons, back_nil, back_vl, back_nm, backM_sh, backM_ow, vals_nil, vals_vl, d_sh, d_ow, down_sh, down_ow, Option.bind_some, Option.map_some, pIx_0, pIx_4, ixN_4, cop_eq, cop_ne, cop_gt, cop_lt, cop_le, cop_ge, ofO_some, bop_add, bop_sub, uop_sub, pow18, blt_int, blt_len, blt_abs, blt_list, blt_isi, decide_eq_true_eq, ↓reduceIte, decide_false, decide_true, Bool.false_eq_true, List.length_cons, List.length_nil, Nat.zero_add, Nat.reduceAdd, Nat.reduceLeDiff, Nat.reduceEqDiff, Nat.reduceBEq, List.set_cons_zero, List.set_cons_succ, Nat.reduceLT, Bool.not_true, Bool.not_false, Bool.or_false, Bool.false_or, Bool.and_true, Bool.true_and, beq_self_eq_true, eq_self, ↓ev_seqK, seqK_nx, seqK_rt, seqK_bk, seqK_ct, seqK_ex, tr_bl, Rt_ok, isT_tup, valOf_ex, argsOf_ex, tstOf_ex, flOf_ex, itsOf_ex, pT0, pT1, Int.reduceEq, Int.reduceLT, Int.reduceLE, hTa]
    | true =>
      cases a <;> first | (exact nomatch (show false = true from hxa)) | skip
      rename_i as
      cases hxf : isT f with
      | false =>
        have e : stOkD k many (.tup [.tup as, f]) = false := by cases f <;> first | rfl | cases hxf
        rw [hxf] at hTf
        rw [e]
        unfold Fn.is_state.s2
        simp only [ev, ↓Res.bind_hide, Res.bindC_ok, Res.bindC_ex, flOf_fl, tstOf_bl, argsOf_args, valOf_val, itsOf_its, List.getElem?_cons_zero, List.getElem?_cons_succ, look_nil, look_vl, look_nm, hand_nil, hand_vl, hand_nm, handM_sh, handM_ow, once_nil, once_vl, once_nm, onceM_sh, onceM_ow, isNm, List.any_nil, List.any_cons, back_nil, back_vl, back_nm, backM_sh, backM_ow, vals_nil, vals_vl, d_sh, d_ow, down_sh, down_ow, Option.bind_some, Option.map_some, pIx_0, pIx_4, ixN_4, cop_eq, cop_ne, cop_gt, cop_lt, cop_le, cop_ge, ofO_some, bop_add, bop_sub, uop_sub, pow18, blt_int, blt_len, blt_abs, blt_list, blt_isi, decide_eq_true_eq, ↓reduceIte, decide_false, decide_true, Bool.false_eq_true, List.length_cons, List.length_nil, Nat.zero_add, Nat.reduceAdd, Nat.reduceLeDiff, Nat.reduceEqDiff, Nat.reduceBEq, List.set_cons_zero, List.set_cons_succ, Nat.reduceLT, Bool.not_true, Bool.not_false, Bool.or_false, Bool.false_or, Bool.and_true, Bool.true_and, beq_self_eq_true, eq_self, ↓ev_seqK, seqK_nx, seqK_rt, seqK_bk, seqK_ct, seqK_ex, tr_bl, Rt_ok, isT_tup, valOf_ex, argsOf_ex, tstOf_ex, flOf_ex, itsOf_ex, pT0, pT1, Int.reduceEq, Int.reduceLT, Int.reduceLE, hTa, hTf]
      | true =>
        cases f <;> first | (exact nomatch (show false = true from hxf)) | skip
        rename_i fo
        obtain ⟨kI, hkI⟩ : ∃ kI : Int, kI = (k : Int) := ⟨_, rfl⟩
        obtain ⟨L, hL⟩ : ∃ L : Int, L = (fo.length : Int) := ⟨_, rfl⟩
        have hlen : pBlt .len [.tup fo] = some (.sh (.int L)) := by rw [hL]; rfl
        show Rt _ (.sh (.bl (decide (fo.length = k) && folOk many fo && accOk k fo (-1) as)))
        have hlk : decide (fo.length = k) = decide (L = kI) := by rw [hL, hkI, Bool.eq_iff_iff, decide_eq_true_eq, decide_eq_true_eq]; omega
        rw [hlk]
        obtain ⟨m2, rfl⟩ : ∃ m', m = m' + 1 := by cases m with | zero => exact nomatch (show false = true from ha) | succ m => exact ⟨m, rfl⟩
        have hfo : D.pls m2 fo = true := hf
        have has : D.pls m2 as = true := ha
        obtain ⟨z5, h3⟩ := is_state_f0 (G := G) (fs := fs) (n := n) (x := .sh (.tup [.tup as, .tup fo])) (a := .sh (.tup as)) (k := k) (many := many) (y5 := .un) (y6 := .un) (y7 := .un) (y8 := .un) hfo
        rw [← hkI] at h3 ⊢
        by_cases hLk : L = kI
        · have s2 : ev G (C2 G fs n) Fn.is_state.s2 [.sh (.tup [.tup as, .tup fo]), .sh (.int kI), .sh (.int many), .sh (.tup as), .sh (.tup fo), .un, .un, .un, .un] = .ok (.fl .nx, [.sh (.tup [.tup as, .tup fo]), .sh (.int kI), .sh (.int many), .sh (.tup as), .sh (.tup fo), .un, .un, .un, .un]) := by
            unfold Fn.is_state.s2
            simp only [ev, ↓Res.bind_hide, Res.bindC_ok, Res.bindC_ex, flOf_fl, tstOf_bl, argsOf_args, valOf_val, itsOf_its, List.getElem?_cons_zero, List.getElem?_cons_succ, look_nil, look_vl, look_nm, hand_nil, hand_vl, hand_nm, handM_sh, handM_ow, once_nil, once_vl, once_nm, onceM_sh, onceM_ow, isNm, List.any_nil, List.any_cons, back_nil, back_vl, back_nm, backM_sh, backM_ow, vals_nil, vals_vl, d_sh, d_ow, down_sh, down_ow, Option.bind_some, Option.map_some, pIx_0, pIx_4, ixN_4, cop_eq, cop_ne, cop_gt, cop_lt, cop_le, cop_ge, ofO_some, bop_add, bop_sub, uop_sub, pow18, blt_int, blt_len, blt_abs, blt_list, blt_isi, decide_eq_true_eq, ↓reduceIte, decide_false, decide_true, Bool.false_eq_true, List.length_cons, List.length_nil, Nat.zero_add, Nat.reduceAdd, Nat.reduceLeDiff, Nat.reduceEqDiff, Nat.reduceBEq, List.set_cons_zero, List.set_cons_succ, Nat.reduceLT, Bool.not_true, Bool.not_false, Bool.or_false, Bool.false_or, Bool.and_true, Bool.true_and, beq_self_eq_true, eq_self, ↓ev_seqK, seqK_nx, seqK_rt, seqK_bk, seqK_ct, seqK_ex, tr_bl, Rt_ok, isT_tup, valOf_ex, argsOf_ex, tstOf_ex, flOf_ex, itsOf_ex, pT0, pT1, Int.reduceEq, Int.reduceLT, Int.reduceLE, hTa, hTf, hlen, hLk]
          rw [ev_seq s2, decide_eq_true hLk, Bool.true_and]
          cases hfol : folOk many fo with
          | false =>
            rw [hfol] at h3
            unfold Fn.is_state.s3
            simp only [ev, ↓Res.bind_hide, Res.bindC_ok, Res.bindC_ex, flOf_fl, tstOf_bl, argsOf_args, valOf_val, itsOf_its, List.getElem?_cons_zero, List.getElem?_cons_succ, look_nil, look_vl, look_nm, hand_nil, hand_vl, hand_nm, handM_sh, handM_ow, once_nil, once_vl, once_nm, onceM_sh, onceM_ow, isNm, List.any_nil, List.any_cons, back_nil, back_vl, back_nm, backM_sh, backM_ow, vals_nil, vals_vl, d_sh, d_ow, down_sh, down_ow, Option.bind_some, Option.map_some, pIx_0, pIx_4, ixN_4, cop_eq, cop_ne, cop_gt, cop_lt, cop_le, cop_ge, ofO_some, bop_add, bop_sub, uop_sub, pow18, blt_int, blt_len, blt_abs, blt_list, blt_isi, decide_eq_true_eq, ↓reduceIte, decide_false, decide_true, Bool.false_eq_true, List.length_cons, List.length_nil, Nat.zero_add, Nat.reduceAdd, Nat.reduceLeDiff, Nat.reduceEqDiff, Nat.reduceBEq, List.set_cons_zero, List.set_cons_succ, Nat.reduceLT, Bool.not_true, Bool.not_false, Bool.or_false, Bool.false_or, Bool.and_true, Bool.true_and, beq_self_eq_true, eq_self, ↓ev_seqK, seqK_nx, seqK_rt, seqK_bk, seqK_ct, seqK_ex, tr_bl, Rt_ok, isT_tup, valOf_ex, argsOf_ex, tstOf_ex, flOf_ex, itsOf_ex, pT0, pT1, Int.reduceEq, Int.reduceLT, Int.reduceLE, h3, Bool.false_and]
          | true =>
            rw [hfol] at h3
            obtain ⟨r, b, z7, z8, h4, h5⟩ := is_state_f2 (G := G) (fs := fs) (n := n) (x := .sh (.tup [.tup as, .tup fo])) (many := many) (y5 := z5) (y7 := .un) (y8 := .un) hk (by omega) (fol_ints hfol) has
            rw [← hkI] at h4
            have s3 : ev G (C2 G fs n) Fn.is_state.s3 [.sh (.tup [.tup as, .tup fo]), .sh (.int kI), .sh (.int many), .sh (.tup as), .sh (.tup fo), .un, .un, .un, .un] = .ok (.fl .nx, [.sh (.tup [.tup as, .tup fo]), .sh (.int kI), .sh (.int many), .sh (.tup as), .sh (.tup fo), z5, .un, .un, .un]) := h3
            have s4 : ev G (C2 G fs n) Fn.is_state.s4 [.sh (.tup [.tup as, .tup fo]), .sh (.int kI), .sh (.int many), .sh (.tup as), .sh (.tup fo), z5, .un, .un, .un] = .ok (.fl .nx, [.sh (.tup [.tup as, .tup fo]), .sh (.int kI), .sh (.int many), .sh (.tup as), .sh (.tup fo), z5, .sh (.int (-1)), .un, .un]) := by
              unfold Fn.is_state.s4
              simp only [ev, ↓Res.bind_hide, Res.bindC_ok, Res.bindC_ex, flOf_fl, tstOf_bl, argsOf_args, valOf_val, itsOf_its, List.getElem?_cons_zero, List.getElem?_cons_succ, look_nil, look_vl, look_nm, hand_nil, hand_vl, hand_nm, handM_sh, handM_ow, once_nil, once_vl, once_nm, onceM_sh, onceM_ow, isNm, List.any_nil, List.any_cons, back_nil, back_vl, back_nm, backM_sh, backM_ow, vals_nil, vals_vl, d_sh, d_ow, down_sh, down_ow, Option.bind_some, Option.map_some, pIx_0, pIx_4, ixN_4, cop_eq, cop_ne, cop_gt, cop_lt, cop_le, cop_ge, ofO_some, bop_add, bop_sub, uop_sub, pow18, blt_int, blt_len, blt_abs, blt_list, blt_isi, decide_eq_true_eq, ↓reduceIte, decide_false, decide_true, Bool.false_eq_true, List.length_cons, List.length_nil, Nat.zero_add, Nat.reduceAdd, Nat.reduceLeDiff, Nat.reduceEqDiff, Nat.reduceBEq, List.set_cons_zero, List.set_cons_succ, Nat.reduceLT, Bool.not_true, Bool.not_false, Bool.or_false, Bool.false_or, Bool.and_true, Bool.true_and, beq_self_eq_true, eq_self, ↓ev_seqK, seqK_nx, seqK_rt, seqK_bk, seqK_ct, seqK_ex, tr_bl, Rt_ok, isT_tup, valOf_ex, argsOf_ex, tstOf_ex, flOf_ex, itsOf_ex, pT0, pT1, Int.reduceEq, Int.reduceLT, Int.reduceLE]
            rw [ev_seq s3, ev_seq s4, Bool.true_and]
            unfold Fn.is_state.s5 Fn.is_state.s6
            cases hacc : accOk k fo (-1) as with
            | false =>
              rw [hacc] at h5
              subst h5
              simp only [ev, ↓Res.bind_hide, Res.bindC_ok, Res.bindC_ex, flOf_fl, tstOf_bl, argsOf_args, valOf_val, itsOf_its, List.getElem?_cons_zero, List.getElem?_cons_succ, look_nil, look_vl, look_nm, hand_nil, hand_vl, hand_nm, handM_sh, handM_ow, once_nil, once_vl, once_nm, onceM_sh, onceM_ow, isNm, List.any_nil, List.any_cons, back_nil, back_vl, back_nm, backM_sh, backM_ow, vals_nil, vals_vl, d_sh, d_ow, down_sh, down_ow, Option.bind_some, Option.map_some, pIx_0, pIx_4, ixN_4, cop_eq, cop_ne, cop_gt, cop_lt, cop_le, cop_ge, ofO_some, bop_add, bop_sub, uop_sub, pow18, blt_int, blt_len, blt_abs, blt_list, blt_isi, decide_eq_true_eq, ↓reduceIte, decide_false, decide_true, Bool.false_eq_true, List.length_cons, List.length_nil, Nat.zero_add, Nat.reduceAdd, Nat.reduceLeDiff, Nat.reduceEqDiff, Nat.reduceBEq, List.set_cons_zero, List.set_cons_succ, Nat.reduceLT, Bool.not_true, Bool.not_false, Bool.or_false, Bool.false_or, Bool.and_true, Bool.true_and, beq_self_eq_true, eq_self, ↓ev_seqK, seqK_nx, seqK_rt, seqK_bk, seqK_ct, seqK_ex, tr_bl, Rt_ok, isT_tup, valOf_ex, argsOf_ex, tstOf_ex, flOf_ex, itsOf_ex, pT0, pT1, Int.reduceEq, Int.reduceLT, Int.reduceLE, h4]
            | true =>
              rw [hacc] at h5
              subst h5
              simp only [ev, ↓Res.bind_hide, Res.bindC_ok, Res.bindC_ex, flOf_fl, tstOf_bl, argsOf_args, valOf_val, itsOf_its, List.getElem?_cons_zero, List.getElem?_cons_succ, look_nil, look_vl, look_nm, hand_nil, hand_vl, hand_nm, handM_sh, handM_ow, once_nil, once_vl, once_nm, onceM_sh, onceM_ow, isNm, List.any_nil, List.any_cons, back_nil, back_vl, back_nm, backM_sh, backM_ow, vals_nil, vals_vl, d_sh, d_ow, down_sh, down_ow, Option.bind_some, Option.map_some, pIx_0, pIx_4, ixN_4, cop_eq, cop_ne, cop_gt, cop_lt, cop_le, cop_ge, ofO_some, bop_add, bop_sub, uop_sub, pow18, blt_int, blt_len, blt_abs, blt_list, blt_isi, decide_eq_true_eq, ↓reduceIte, decide_false, decide_true, Bool.false_eq_true, List.length_cons, List.length_nil, Nat.zero_add, Nat.reduceAdd, Nat.reduceLeDiff, Nat.reduceEqDiff, Nat.reduceBEq, List.set_cons_zero, List.set_cons_succ, Nat.reduceLT, Bool.not_true, Bool.not_false, Bool.or_false, Bool.false_or, Bool.and_true, Bool.true_and, beq_self_eq_true, eq_self, ↓ev_seqK, seqK_nx, seqK_rt, seqK_bk, seqK_ct, seqK_ex, tr_bl, Rt_ok, isT_tup, valOf_ex, argsOf_ex, tstOf_ex, flOf_ex, itsOf_ex, pT0, pT1, Int.reduceEq, Int.reduceLT, Int.reduceLE, h4]
        · rw [decide_eq_false hLk, Bool.false_and, Bool.false_and]
          unfold Fn.is_state.s2
          simp only [ev, ↓Res.bind_hide, Res.bindC_ok, Res.bindC_ex, flOf_fl, tstOf_bl, argsOf_args, valOf_val, itsOf_its, List.getElem?_cons_zero, List.getElem?_cons_succ, look_nil, look_vl, look_nm, hand_nil, hand_vl, hand_nm, handM_sh, handM_ow, once_nil, once_vl, once_nm, onceM_sh, onceM_ow, isNm, List.any_nil, List.any_cons, back_nil, back_vl, back_nm, backM_sh, backM_ow, vals_nil, vals_vl, d_sh, d_ow, down_sh, down_ow, Option.bind_some, Option.map_some, pIx_0, pIx_4, ixN_4, cop_eq, cop_ne, cop_gt, cop_lt, cop_le, cop_ge, ofO_some, bop_add, bop_sub, uop_sub, pow18, blt_int, blt_len, blt_abs, blt_list, blt_isi, decide_eq_true_eq, ↓reduceIte, decide_false, decide_true, Bool.false_eq_true, List.length_cons, List.length_nil, Nat.zero_add, Nat.reduceAdd, Nat.reduceLeDiff, Nat.reduceEqDiff, Nat.reduceBEq, List.set_cons_zero, List.set_cons_succ, Nat.reduceLT, Bool.not_true, Bool.not_false, Bool.or_false, Bool.false_or, Bool.and_true, Bool.true_and, beq_self_eq_true, eq_self, ↓ev_seqK, seqK_nx, seqK_rt, seqK_bk, seqK_ct, seqK_ex, tr_bl, Rt_ok, isT_tup, valOf_ex, argsOf_ex, tstOf_ex, flOf_ex, itsOf_ex, pT0, pT1, Int.reduceEq, Int.reduceLT, Int.reduceLE, hTa, hTf, hlen, hLk]
end
def isDemD : D → Bool
  | .tup ds => (match ds with
    | [k, st] => wi k 0 5 && (match st with
      | .tup ss => decide (1 ≤ ss.length) && decide (ss.length ≤ 40) && ss.all (stOkD (intD k).toNat ss.length)
      | _ => false)
    | _ => false)
  | _ => false
section
variable [Has fs 4 Fn.is_whole] [Has fs 5 Fn.is_within] [Has fs 6 Fn.has] [Has fs 7 Fn.is_state] [Has fs 8 Fn.is_demand] [hP : HasC G 0 (.tup [.int 1, .int 2, .int 4, .int 8, .int 16])] [hQ : HasC G 1 (.tup [.int 1, .int 2, .int 4, .int 8, .int 16, .int 32])] [hR : HasC G 2 (.int 5)] [hS : HasC G 3 (.int 40)]
abbrev C3 (G : Sig) (fs : FS) (n : Nat) := run G fs (n + 1 + 1 + 1)
theorem is_demand_f0 {k : Nat} {x : D} {k0 : D} {ss : List D} {m : Nat} (hk : k < 6) (hp : D.pls m ss = true) (hx : pIx x (.int 0) = some (.sh (.int k))) {y : Sl} :
    ∃ z, ev G (C3 G fs n) Fn.is_demand.f0 [.sh x, .sh (.tup ss), y] = .ok (if ss.all (stOkD k ss.length) = true then .fl .nx else .fl (.rt (.sh (.bl false))), [.sh x, .sh (.tup ss), z]) := by
  obtain ⟨L, hL⟩ : ∃ L : Int, L = (ss.length : Int) := ⟨_, rfl⟩
  have hlen : pBlt .len [.tup ss] = some (.sh (.int L)) := by rw [hL]; rfl
  rw [← hL]
  have key := forL_all (step := fSt G (C3 G fs n) (.tN 2) (.seq (.ifS (.tnot (.tv (.call 7 (.argN 2 (.consE (.ixe (.argN 0 (.consE (.cI 0) .nilE))) (.consE (.blt .len (.argN 1 .nilE)) .nilE)))))) (.seq (.ret (.cB false)) .skip) .skip) .skip))
    (P := fun e => ∃ z, e = [.sh x, .sh (.tup ss), z]) (g := stOkD k L) (s := .sh (.bl false)) (ds := ss) (e := [.sh x, .sh (.tup ss), y]) (fun d hd e ⟨z, he⟩ => by
      subst he
      have hw := run_is_state (G := G) (fs := fs) (n := n) (many := L) (pls_mem hp d hd) hk
      refine ⟨_, ?_, .sh d, rfl⟩
      show ev G (C3 G fs n) _ [.sh x, .sh (.tup ss), .sh d] = _
      cases hb : stOkD k L d <;> (rw [hb] at hw; simp only [ev, ↓Res.bind_hide, Res.bindC_ok, Res.bindC_ex, flOf_fl, tstOf_bl, argsOf_args, valOf_val, itsOf_its, List.getElem?_cons_zero, List.getElem?_cons_succ, look_nil, look_vl, look_nm, hand_nil, hand_vl, hand_nm, handM_sh, handM_ow, once_nil, once_vl, once_nm, onceM_sh, onceM_ow, isNm, List.any_nil, List.any_cons, back_nil, back_vl, back_nm, backM_sh, backM_ow, vals_nil, vals_vl, d_sh, d_ow, down_sh, down_ow, Option.bind_some, Option.map_some, pIx_0, pIx_4, ixN_4, cop_eq, cop_ne, cop_gt, cop_lt, cop_le, cop_ge, ofO_some, bop_add, bop_sub, uop_sub, pow18, blt_int, blt_len, blt_abs, blt_list, blt_isi, decide_eq_true_eq, ↓reduceIte, decide_false, decide_true, Bool.false_eq_true, List.length_cons, List.length_nil, Nat.zero_add, Nat.reduceAdd, Nat.reduceLeDiff, Nat.reduceEqDiff, Nat.reduceBEq, List.set_cons_zero, List.set_cons_succ, Nat.reduceLT, Bool.not_true, Bool.not_false, Bool.or_false, Bool.false_or, Bool.and_true, Bool.true_and, beq_self_eq_true, eq_self, ↓ev_seqK, seqK_nx, seqK_rt, seqK_bk, seqK_ct, seqK_ex, tr_bl, Rt_ok, isT_tup, valOf_ex, argsOf_ex, tstOf_ex, flOf_ex, itsOf_ex, pT0, pT1, Int.reduceEq, Int.reduceLT, Int.reduceLE, hx, hlen, hw])) ⟨y, rfl⟩
  obtain ⟨e', h1, z, rfl⟩ := key
  refine ⟨z, ?_⟩
  unfold Fn.is_demand.f0
  rw [ev_forSh (i := 1) (ds := ss) rfl rfl]
  exact h1
theorem run_is_demand {x : D} {m : Nat} (h : x.pl m = true) : run G fs (n + 1 + 1 + 1 + 1) 8 [.sh x] = .ok (.sh (.bl (isDemD x)), [.sh x]) := by
  refine run_sh (F := Fn.is_demand) rfl rfl ?_
  show Rt (ev G (C3 G fs n) Fn.is_demand.b [.sh x, .un, .un]) _
  have hT := isi_isT h
  cases hx : isT x with
  | false =>
    have e : isDemD x = false := by cases x <;> first | rfl | cases hx
    rw [hx] at hT
    rw [e]
    unfold Fn.is_demand.b Fn.is_demand.s0
    simp only [ev, ↓Res.bind_hide, Res.bindC_ok, Res.bindC_ex, flOf_fl, tstOf_bl, argsOf_args, valOf_val, itsOf_its, List.getElem?_cons_zero, List.getElem?_cons_succ, look_nil, look_vl, look_nm, hand_nil, hand_vl, hand_nm, handM_sh, handM_ow, once_nil, once_vl, once_nm, onceM_sh, onceM_ow, isNm, List.any_nil, List.any_cons, back_nil, back_vl, back_nm, backM_sh, backM_ow, vals_nil, vals_vl, d_sh, d_ow, down_sh, down_ow, Option.bind_some, Option.map_some, pIx_0, pIx_4, ixN_4, cop_eq, cop_ne, cop_gt, cop_lt, cop_le, cop_ge, ofO_some, bop_add, bop_sub, uop_sub, pow18, blt_int, blt_len, blt_abs, blt_list, blt_isi, decide_eq_true_eq, ↓reduceIte, decide_false, decide_true, Bool.false_eq_true, List.length_cons, List.length_nil, Nat.zero_add, Nat.reduceAdd, Nat.reduceLeDiff, Nat.reduceEqDiff, Nat.reduceBEq, List.set_cons_zero, List.set_cons_succ, Nat.reduceLT, Bool.not_true, Bool.not_false, Bool.or_false, Bool.false_or, Bool.and_true, Bool.true_and, beq_self_eq_true, eq_self, ↓ev_seqK, seqK_nx, seqK_rt, seqK_bk, seqK_ct, seqK_ex, tr_bl, Rt_ok, isT_tup, valOf_ex, argsOf_ex, tstOf_ex, flOf_ex, itsOf_ex, pT0, pT1, Int.reduceEq, Int.reduceLT, Int.reduceLE, hT]
  | true =>
    cases x <;> first | (exact nomatch (show false = true from hx)) | skip
    rename_i ds
    obtain ⟨m, rfl⟩ : ∃ m', m = m' + 1 := by cases m with | zero => exact nomatch (show false = true from h) | succ m => exact ⟨m, rfl⟩
    have hp : D.pls m ds = true := h
    clear hT
    have hT : ∀ ds : List D, isiD (.tup ds) "tuple" = some true := fun _ => rfl
    by_cases h2 : ds.length = 2
    case neg =>
      have e : isDemD (.tup ds) = false := by
        match ds, h2 with
        | [], _ => rfl
        | [_], _ => rfl
        | [_, _], h2 => exact absurd rfl h2
        | _ :: _ :: _ :: _, _ => rfl
      have hne : ¬ ((ds.length : Int) = 2) := by omega
      generalize hG : (ds.length : Int) = L at hne
      have hlen : pBlt .len [.tup ds] = some (.sh (.int L)) := by rw [← hG]; rfl
      rw [e]
      unfold Fn.is_demand.b Fn.is_demand.s0
      simp only [ev, ↓Res.bind_hide, Res.bindC_ok, Res.bindC_ex, flOf_fl, tstOf_bl, argsOf_args, valOf_val, itsOf_its, List.getElem?_cons_zero, List.getElem?_cons_succ, look_nil, look_vl, look_nm, hand_nil, hand_vl, hand_nm, handM_sh, handM_ow, once_nil, once_vl, once_nm, onceM_sh, onceM_ow, isNm, List.any_nil, List.any_cons, back_nil, back_vl, back_nm, backM_sh, backM_ow, vals_nil, vals_vl, d_sh, d_ow, down_sh, down_ow, Option.bind_some, Option.map_some, pIx_0, pIx_4, ixN_4, cop_eq, cop_ne, cop_gt, cop_lt, cop_le, cop_ge, ofO_some, bop_add, bop_sub, uop_sub, pow18, blt_int, blt_len, blt_abs, blt_list, blt_isi, decide_eq_true_eq, ↓reduceIte, decide_false, decide_true, Bool.false_eq_true, List.length_cons, List.length_nil, Nat.zero_add, Nat.reduceAdd, Nat.reduceLeDiff, Nat.reduceEqDiff, Nat.reduceBEq, List.set_cons_zero, List.set_cons_succ, Nat.reduceLT, Bool.not_true, Bool.not_false, Bool.or_false, Bool.false_or, Bool.and_true, Bool.true_and, beq_self_eq_true, eq_self, ↓ev_seqK, seqK_nx, seqK_rt, seqK_bk, seqK_ct, seqK_ex, tr_bl, Rt_ok, isT_tup, valOf_ex, argsOf_ex, tstOf_ex, flOf_ex, itsOf_ex, pT0, pT1, Int.reduceEq, Int.reduceLT, Int.reduceLE, hT, hlen, hne]
    obtain ⟨k, st, rfl⟩ : ∃ a f, ds = [a, f] := by match ds, h2 with | [a, f], _ => exact ⟨a, f, rfl⟩
    have hk := pls_mem hp k List.mem_cons_self
    have hst := pls_mem hp st (List.mem_cons_of_mem _ List.mem_cons_self)
    have hw := run_is_within (G := G) (fs := fs) (n := n + 1) (lo := 0) (hi := 5) hk
    cases hwi : wi k 0 5 with
    | false =>
      have e : isDemD (.tup [k, st]) = false := by
        show (wi k 0 5 && _) = false
        rw [hwi]; rfl
      rw [hwi] at hw
      rw [e]
      unfold Fn.is_demand.b Fn.is_demand.s0
      simp only [ev, ↓Res.bind_hide, Res.bindC_ok, Res.bindC_ex, flOf_fl, tstOf_bl, argsOf_args, valOf_val, itsOf_its, List.getElem?_cons_zero, List.getElem?_cons_succ, look_nil, look_vl, look_nm, hand_nil, hand_vl, hand_nm, handM_sh, handM_ow, once_nil, once_vl, once_nm, onceM_sh, onceM_ow, isNm, List.any_nil, List.any_cons, back_nil, back_vl, back_nm, backM_sh, backM_ow, vals_nil, vals_vl, d_sh, d_ow, down_sh, down_ow, Option.bind_some, Option.map_some, pIx_0, pIx_4, ixN_4, cop_eq, cop_ne, cop_gt, cop_lt, cop_le, cop_ge, ofO_some, bop_add, bop_sub, uop_sub, pow18, blt_int, blt_len, blt_abs, blt_list, blt_isi, decide_eq_true_eq, ↓reduceIte, decide_false, decide_true, Bool.false_eq_true, List.length_cons, List.length_nil, Nat.zero_add, Nat.reduceAdd, Nat.reduceLeDiff, Nat.reduceEqDiff, Nat.reduceBEq, List.set_cons_zero, List.set_cons_succ, Nat.reduceLT, Bool.not_true, Bool.not_false, Bool.or_false, Bool.false_or, Bool.and_true, Bool.true_and, beq_self_eq_true, eq_self, ↓ev_seqK, seqK_nx, seqK_rt, seqK_bk, seqK_ct, seqK_ex, tr_bl, Rt_ok, isT_tup, valOf_ex, argsOf_ex, tstOf_ex, flOf_ex, itsOf_ex, pT0, pT1, Int.reduceEq, Int.reduceLT, Int.reduceLE, hT, lenT2, hw, hR.e]
    | true =>
      rw [hwi] at hw
      obtain ⟨i, rfl, i0, i5⟩ := wi_int hwi
      obtain ⟨kn, rfl⟩ := Int.eq_ofNat_of_zero_le i0
      obtain ⟨kI, hkI⟩ : ∃ kI : Int, kI = (kn : Int) := ⟨_, rfl⟩
      rw [← hkI] at hw
      have hTs := isi_isT hst
      cases hxs : isT st with
      | false =>
        have e : isDemD (.tup [.int kn, st]) = false := by
          show (wi (.int kn) 0 5 && _) = false
          rw [hwi]
          cases st <;> first | rfl | cases hxs
        rw [hxs] at hTs
        rw [e, ← hkI]
        unfold Fn.is_demand.b Fn.is_demand.s0 Fn.is_demand.s1 Fn.is_demand.s2
        simp only [ev, ↓Res.bind_hide, Res.bindC_ok, Res.bindC_ex, flOf_fl, tstOf_bl, argsOf_args, valOf_val, itsOf_its, List.getElem?_cons_zero, List.getElem?_cons_succ, look_nil, look_vl, look_nm, hand_nil, hand_vl, hand_nm, handM_sh, handM_ow, once_nil, once_vl, once_nm, onceM_sh, onceM_ow, isNm, List.any_nil, List.any_cons, back_nil, back_vl, back_nm, backM_sh, backM_ow, vals_nil, vals_vl, d_sh, d_ow, down_sh, down_ow, Option.bind_some, Option.map_some, pIx_0, pIx_4, ixN_4, cop_eq, cop_ne, cop_gt, cop_lt, cop_le, cop_ge, ofO_some, bop_add, bop_sub, uop_sub, pow18, blt_int, blt_len, blt_abs, blt_list, blt_isi, decide_eq_true_eq, ↓reduceIte, decide_false, decide_true, Bool.false_eq_true, List.length_cons, List.length_nil, Nat.zero_add, Nat.reduceAdd, Nat.reduceLeDiff, Nat.reduceEqDiff, Nat.reduceBEq, List.set_cons_zero, List.set_cons_succ, Nat.reduceLT, Bool.not_true, Bool.not_false, Bool.or_false, Bool.false_or, Bool.and_true, Bool.true_and, beq_self_eq_true, eq_self, ↓ev_seqK, seqK_nx, seqK_rt, seqK_bk, seqK_ct, seqK_ex, tr_bl, Rt_ok, isT_tup, valOf_ex, argsOf_ex, tstOf_ex, flOf_ex, itsOf_ex, pT0, pT1, Int.reduceEq, Int.reduceLT, Int.reduceLE, hT, lenT2, hw, hR.e, hTs]
      | true =>
        cases st <;> first | (exact nomatch (show false = true from hxs)) | skip
        rename_i ss
        obtain ⟨m2, rfl⟩ : ∃ m', m = m' + 1 := by cases m with | zero => exact nomatch (show false = true from hst) | succ m => exact ⟨m, rfl⟩
        have hss : D.pls m2 ss = true := hst
        have e : isDemD (.tup [.int kn, .tup ss]) = (decide (1 ≤ ss.length) && decide (ss.length ≤ 40) && ss.all (stOkD kn ss.length)) := by
          show (wi (.int kn) 0 5 && _) = _
          rw [hwi]
          rfl
        obtain ⟨z, hf⟩ := is_demand_f0 (G := G) (fs := fs) (n := n) (k := kn) (x := .tup [.int kn, .tup ss]) (k0 := .non) (ss := ss) (y := .un) (by omega) hss pT0
        rw [e, ← hkI] at *
        obtain ⟨L, hL⟩ : ∃ L : Int, L = (ss.length : Int) := ⟨_, rfl⟩
        have hlen : pBlt .len [.tup ss] = some (.sh (.int L)) := by rw [hL]; rfl
        by_cases h1 : 1 ≤ L
        · by_cases h40 : L ≤ 40
          · rw [decide_eq_true (show 1 ≤ ss.length by omega), decide_eq_true (show ss.length ≤ 40 by omega), Bool.true_and, Bool.true_and]
            unfold Fn.is_demand.b Fn.is_demand.s0 Fn.is_demand.s1 Fn.is_demand.s2 Fn.is_demand.s3 Fn.is_demand.s4
            cases ha : ss.all (stOkD kn ss.length) <;> (rw [ha] at hf; simp only [ev, ↓Res.bind_hide, Res.bindC_ok, Res.bindC_ex, flOf_fl, tstOf_bl, argsOf_args, valOf_val, itsOf_its, List.getElem?_cons_zero, List.getElem?_cons_succ, look_nil, look_vl, look_nm, hand_nil, hand_vl, hand_nm, handM_sh, handM_ow, once_nil, once_vl, once_nm, onceM_sh, onceM_ow, isNm, List.any_nil, List.any_cons, back_nil, back_vl, back_nm, backM_sh, backM_ow, vals_nil, vals_vl, d_sh, d_ow, down_sh, down_ow, Option.bind_some, Option.map_some, pIx_0, pIx_4, ixN_4, cop_eq, cop_ne, cop_gt, cop_lt, cop_le, cop_ge, ofO_some, bop_add, bop_sub, uop_sub, pow18, blt_int, blt_len, blt_abs, blt_list, blt_isi, decide_eq_true_eq, ↓reduceIte, decide_false, decide_true, Bool.false_eq_true, List.length_cons, List.length_nil, Nat.zero_add, Nat.reduceAdd, Nat.reduceLeDiff, Nat.reduceEqDiff, Nat.reduceBEq, List.set_cons_zero, List.set_cons_succ, Nat.reduceLT, Bool.not_true, Bool.not_false, Bool.or_false, Bool.false_or, Bool.and_true, Bool.true_and, beq_self_eq_true, eq_self, ↓ev_seqK, seqK_nx, seqK_rt, seqK_bk, seqK_ct, seqK_ex, tr_bl, Rt_ok, isT_tup, valOf_ex, argsOf_ex, tstOf_ex, flOf_ex, itsOf_ex, pT0, pT1, Int.reduceEq, Int.reduceLT, Int.reduceLE, hT, lenT2, hw, hR.e, hlen, h1, hS.e, h40, hf])
          · rw [decide_eq_false (show ¬ ss.length ≤ 40 by omega), Bool.and_false, Bool.false_and]
            unfold Fn.is_demand.b Fn.is_demand.s0 Fn.is_demand.s1 Fn.is_demand.s2
            simp only [ev, ↓Res.bind_hide, Res.bindC_ok, Res.bindC_ex, flOf_fl, tstOf_bl, argsOf_args, valOf_val, itsOf_its, List.getElem?_cons_zero, List.getElem?_cons_succ, look_nil, look_vl, look_nm, hand_nil, hand_vl, hand_nm, handM_sh, handM_ow, once_nil, once_vl, once_nm, onceM_sh, onceM_ow, isNm, List.any_nil, List.any_cons, back_nil, back_vl, back_nm, backM_sh, backM_ow, vals_nil, vals_vl, d_sh, d_ow, down_sh, down_ow, Option.bind_some, Option.map_some, pIx_0, pIx_4, ixN_4, cop_eq, cop_ne, cop_gt, cop_lt, cop_le, cop_ge, ofO_some, bop_add, bop_sub, uop_sub, pow18, blt_int, blt_len, blt_abs, blt_list, blt_isi, decide_eq_true_eq, ↓reduceIte, decide_false, decide_true, Bool.false_eq_true, List.length_cons, List.length_nil, Nat.zero_add, Nat.reduceAdd, Nat.reduceLeDiff, Nat.reduceEqDiff, Nat.reduceBEq, List.set_cons_zero, List.set_cons_succ, Nat.reduceLT, Bool.not_true, Bool.not_false, Bool.or_false, Bool.false_or, Bool.and_true, Bool.true_and, beq_self_eq_true, eq_self, ↓ev_seqK, seqK_nx, seqK_rt, seqK_bk, seqK_ct, seqK_ex, tr_bl, Rt_ok, isT_tup, valOf_ex, argsOf_ex, tstOf_ex, flOf_ex, itsOf_ex, pT0, pT1, Int.reduceEq, Int.reduceLT, Int.reduceLE, hT, lenT2, hw, hR.e, hlen, h1, hS.e, h40]
        · rw [decide_eq_false (show ¬ 1 ≤ ss.length by omega), Bool.false_and, Bool.false_and]
          unfold Fn.is_demand.b Fn.is_demand.s0 Fn.is_demand.s1 Fn.is_demand.s2
          simp only [ev, ↓Res.bind_hide, Res.bindC_ok, Res.bindC_ex, flOf_fl, tstOf_bl, argsOf_args, valOf_val, itsOf_its, List.getElem?_cons_zero, List.getElem?_cons_succ, look_nil, look_vl, look_nm, hand_nil, hand_vl, hand_nm, handM_sh, handM_ow, once_nil, once_vl, once_nm, onceM_sh, onceM_ow, isNm, List.any_nil, List.any_cons, back_nil, back_vl, back_nm, backM_sh, backM_ow, vals_nil, vals_vl, d_sh, d_ow, down_sh, down_ow, Option.bind_some, Option.map_some, pIx_0, pIx_4, ixN_4, cop_eq, cop_ne, cop_gt, cop_lt, cop_le, cop_ge, ofO_some, bop_add, bop_sub, uop_sub, pow18, blt_int, blt_len, blt_abs, blt_list, blt_isi, decide_eq_true_eq, ↓reduceIte, decide_false, decide_true, Bool.false_eq_true, List.length_cons, List.length_nil, Nat.zero_add, Nat.reduceAdd, Nat.reduceLeDiff, Nat.reduceEqDiff, Nat.reduceBEq, List.set_cons_zero, List.set_cons_succ, Nat.reduceLT, Bool.not_true, Bool.not_false, Bool.or_false, Bool.false_or, Bool.and_true, Bool.true_and, beq_self_eq_true, eq_self, ↓ev_seqK, seqK_nx, seqK_rt, seqK_bk, seqK_ct, seqK_ex, tr_bl, Rt_ok, isT_tup, valOf_ex, argsOf_ex, tstOf_ex, flOf_ex, itsOf_ex, pT0, pT1, Int.reduceEq, Int.reduceLT, Int.reduceLE, hT, lenT2, hw, hR.e, hlen, h1, hS.e]
variable [Has fs 9 Fn.check_demand]
theorem run_check_demand {x : D} {m : Nat} (h : x.pl m = true) : run G fs (n + 1 + 1 + 1 + 1 + 1) 9 [.sh x] = if isDemD x = true then .ok (.sh .non, [.sh x]) else .ex "BadDemand" := by
  have hd := run_is_demand (G := G) (fs := fs) (n := n) h
  cases hx : isDemD x with
  | true =>
    rw [hx] at hd
    refine run_shN (F := Fn.check_demand) (e := [.sh x]) rfl rfl ?_
    show ev G (run G fs (n + 1 + 1 + 1 + 1)) Fn.check_demand.b [.sh x] = _
    unfold Fn.check_demand.b
    simp only [ev, ↓Res.bind_hide, Res.bindC_ok, Res.bindC_ex, flOf_fl, tstOf_bl, argsOf_args, valOf_val, itsOf_its, List.getElem?_cons_zero, List.getElem?_cons_succ, look_nil, look_vl, look_nm, hand_nil, hand_vl, hand_nm, handM_sh, handM_ow, once_nil, once_vl, once_nm, onceM_sh, onceM_ow, isNm, List.any_nil, List.any_cons, back_nil, back_vl, back_nm, backM_sh, backM_ow, vals_nil, vals_vl, d_sh, d_ow, down_sh, down_ow, Option.bind_some, Option.map_some, pIx_0, pIx_4, ixN_4, cop_eq, cop_ne, cop_gt, cop_lt, cop_le, cop_ge, ofO_some, bop_add, bop_sub, uop_sub, pow18, blt_int, blt_len, blt_abs, blt_list, blt_isi, decide_eq_true_eq, ↓reduceIte, decide_false, decide_true, Bool.false_eq_true, List.length_cons, List.length_nil, Nat.zero_add, Nat.reduceAdd, Nat.reduceLeDiff, Nat.reduceEqDiff, Nat.reduceBEq, List.set_cons_zero, List.set_cons_succ, Nat.reduceLT, Bool.not_true, Bool.not_false, Bool.or_false, Bool.false_or, Bool.and_true, Bool.true_and, beq_self_eq_true, eq_self, ↓ev_seqK, seqK_nx, seqK_rt, seqK_bk, seqK_ct, seqK_ex, tr_bl, Rt_ok, isT_tup, valOf_ex, argsOf_ex, tstOf_ex, flOf_ex, itsOf_ex, pT0, pT1, Int.reduceEq, Int.reduceLT, Int.reduceLE, hd]
  | false =>
    rw [hx] at hd
    refine run_ex (F := Fn.check_demand) rfl ?_
    show ev G (run G fs (n + 1 + 1 + 1 + 1)) Fn.check_demand.b [.sh x] = _
    unfold Fn.check_demand.b
    simp only [ev, ↓Res.bind_hide, Res.bindC_ok, Res.bindC_ex, flOf_fl, tstOf_bl, argsOf_args, valOf_val, itsOf_its, List.getElem?_cons_zero, List.getElem?_cons_succ, look_nil, look_vl, look_nm, hand_nil, hand_vl, hand_nm, handM_sh, handM_ow, once_nil, once_vl, once_nm, onceM_sh, onceM_ow, isNm, List.any_nil, List.any_cons, back_nil, back_vl, back_nm, backM_sh, backM_ow, vals_nil, vals_vl, d_sh, d_ow, down_sh, down_ow, Option.bind_some, Option.map_some, pIx_0, pIx_4, ixN_4, cop_eq, cop_ne, cop_gt, cop_lt, cop_le, cop_ge, ofO_some, bop_add, bop_sub, uop_sub, pow18, blt_int, blt_len, blt_abs, blt_list, blt_isi, decide_eq_true_eq, ↓reduceIte, decide_false, decide_true, Bool.false_eq_true, List.length_cons, List.length_nil, Nat.zero_add, Nat.reduceAdd, Nat.reduceLeDiff, Nat.reduceEqDiff, Nat.reduceBEq, List.set_cons_zero, List.set_cons_succ, Nat.reduceLT, Bool.not_true, Bool.not_false, Bool.or_false, Bool.false_or, Bool.and_true, Bool.true_and, beq_self_eq_true, eq_self, ↓ev_seqK, seqK_nx, seqK_rt, seqK_bk, seqK_ct, seqK_ex, tr_bl, Rt_ok, isT_tup, valOf_ex, argsOf_ex, tstOf_ex, flOf_ex, itsOf_ex, pT0, pT1, Int.reduceEq, Int.reduceLT, Int.reduceLE, hd]
end
theorem stOkD_form {k : Nat} {many : Int} {x : D} (h : stOkD k many x = true) : ∃ a f, x = .tup [.tup a, .tup f] ∧ f.length = k ∧ folOk many f = true ∧ accOk k f (-1) a = true := by
  cases x with
  | tup ds =>
    match ds, h with
    | [a, f], h =>
      cases a with
      | tup a =>
        cases f with
        | tup f =>
          have h' : (decide (f.length = k) && folOk many f && accOk k f (-1) a) = true := h
          rw [Bool.and_eq_true, Bool.and_eq_true, decide_eq_true_eq] at h'
          exact ⟨a, f, rfl, h'.1.1, h'.1.2, h'.2⟩
        | _ => exact nomatch (show false = true from h)
      | _ => exact nomatch (show false = true from h)
    | [], h => exact nomatch (show false = true from h)
    | [_], h => exact nomatch (show false = true from h)
    | _ :: _ :: _ :: _, h => exact nomatch (show false = true from h)
  | _ => exact nomatch (show false = true from h)
theorem isDemD_form {x : D} (h : isDemD x = true) : ∃ (k : Nat) (ss : List D), x = .tup [.int k, .tup ss] ∧ k < 6 ∧ 1 ≤ ss.length ∧ ss.length ≤ 40 ∧ ss.all (stOkD k ss.length) = true := by
  cases x with
  | tup ds =>
    match ds, h with
    | [k, st], h =>
      have h' : (wi k 0 5 && _) = true := h
      rw [Bool.and_eq_true] at h'
      obtain ⟨i, rfl, i0, i5⟩ := wi_int h'.1
      obtain ⟨kn, rfl⟩ := Int.eq_ofNat_of_zero_le i0
      cases st with
      | tup ss =>
        have q : (decide (1 ≤ ss.length) && decide (ss.length ≤ 40) && ss.all (stOkD kn ss.length)) = true := h'.2
        rw [Bool.and_eq_true, Bool.and_eq_true, decide_eq_true_eq, decide_eq_true_eq] at q
        exact ⟨kn, ss, rfl, by omega, q.1.1, q.1.2, q.2⟩
      | _ => exact nomatch (show false = true from h'.2)
    | [], h => exact nomatch (show false = true from h)
    | [_], h => exact nomatch (show false = true from h)
    | _ :: _ :: _ :: _, h => exact nomatch (show false = true from h)
  | _ => exact nomatch (show false = true from h)
/-- the state to which a letter leads -/
def nxD (ss : List D) (q a : Int) : Int := match ss[q.toNat]? with
  | some (.tup [_, .tup f]) => intD (f.getD a.toNat .non)
  | _ => -1
def sAft (ss : List D) : Int → List Int → Int
  | q, [] => q
  | q, a :: w => sAft ss (if 0 ≤ q then nxD ss q a else q) w
theorem nx_ok {ss : List D} {k : Nat} {L q a : Int} (h : ss.all (stOkD k L) = true) (hL : L = ss.length) (q0 : 0 ≤ q) (q1 : q < L) (a0 : 0 ≤ a) (a1 : a < k) :
    ∃ ac f, pIx (.tup ss) (.int q) = some (.sh (.tup [.tup ac, .tup f])) ∧ pIx (.tup f) (.int a) = some (.sh (.int (nxD ss q a))) ∧ -1 ≤ nxD ss q a ∧ nxD ss q a < L := by
  have hq : q.toNat < ss.length := by omega
  have hx : ss[q.toNat]? = some ss[q.toNat] := List.getElem?_eq_getElem hq
  obtain ⟨ac, f, e1, e2, e3, _⟩ := stOkD_form (List.all_eq_true.mp h _ (List.getElem_mem hq))
  rw [e1] at hx
  have ha : a.toNat < f.length := by omega
  have hy : f[a.toNat]? = some f[a.toNat] := List.getElem?_eq_getElem ha
  obtain ⟨i, e4, i0, i1⟩ := wi_int (List.all_eq_true.mp e3 _ (List.getElem_mem ha))
  rw [e4] at hy
  have en : nxD ss q a = i := by
    unfold nxD
    rw [hx]
    show intD (f.getD a.toNat .non) = i
    rw [List.getD_eq_getElem?_getD, hy]; rfl
  rw [en]
  exact ⟨ac, f, pIx_int q0 hx, pIx_int a0 hy, i0, by omega⟩
theorem sAft_lo {ss : List D} {k : Nat} {L : Int} (h : ss.all (stOkD k L) = true) (hL : L = ss.length) : ∀ (w : List Int) (q : Int), (∀ a ∈ w, 0 ≤ a ∧ a < k) → -1 ≤ q → q < L → -1 ≤ sAft ss q w ∧ sAft ss q w < L
  | [], q, _, h1, h2 => ⟨h1, h2⟩
  | a :: w, q, hw, h1, h2 => by
    have ha := hw a List.mem_cons_self
    refine sAft_lo h hL w _ (fun b hb => hw b (List.mem_cons_of_mem _ hb)) ?_ ?_
    · split
      · rename_i q0
        obtain ⟨_, _, _, _, h3, _⟩ := nx_ok h hL q0 h2 ha.1 ha.2
        exact h3
      · exact h1
    · split
      · rename_i q0
        obtain ⟨_, _, _, _, _, h3⟩ := nx_ok h hL q0 h2 ha.1 ha.2
        exact h3
      · exact h2
theorem sAft_app {ss : List D} : ∀ (w v : List Int) (q : Int), sAft ss q (w ++ v) = sAft ss (sAft ss q w) v
  | [], v, q => rfl
  | a :: w, v, q => by rw [List.cons_append, sAft, sAft, sAft_app w v]
section
variable [Has fs 10 Fn.state_after]
theorem run_state_after {k : Nat} {ss : List D} {w : List Int} (h : ss.all (stOkD k ss.length) = true) (h1 : 1 ≤ ss.length) (hw : ∀ a ∈ w, 0 ≤ a ∧ a < k) :
    run G fs (n + 1) 10 [.sh (.tup [.int k, .tup ss]), .sh (.tup (w.map .int))] = .ok (.sh (.int (sAft ss 0 w)), [.sh (.tup [.int k, .tup ss]), .sh (.tup (w.map .int))]) := by
  refine run_sh (F := Fn.state_after) rfl rfl ?_
  show Rt (ev G (run G fs n) Fn.state_after.b [.sh (.tup [.int k, .tup ss]), .sh (.tup (w.map .int)), .un, .un]) _
  obtain ⟨L, hL⟩ : ∃ L : Int, L = (ss.length : Int) := ⟨_, rfl⟩
  rw [← hL] at h
  obtain ⟨kI, hkI⟩ : ∃ kI : Int, kI = (k : Int) := ⟨_, rfl⟩
  rw [← hkI]
  have key := forL_gen (step := fSt G (run G fs n) (.tN 3) (.seq (.ifS (.tcp .GtE (.argN 2 (.consE (.cI 0) .nilE))) (.seq (.asg (.tN 2) (.ixe (.consE (.ixe (.consE (.ixe (.consE (.ixe (.argN 0 (.consE (.cI 1) .nilE))) (.argN 2 .nilE))) (.consE (.cI 1) .nilE))) (.argN 3 .nilE)))) .skip) .skip) .skip))
    (Inv := fun pre post e => ∃ q v z, post = v.map .int ∧ (∀ a ∈ v, 0 ≤ a ∧ a < (k : Int)) ∧ -1 ≤ q ∧ q < L ∧ sAft ss 0 w = sAft ss q v ∧ e = [.sh (.tup [.int kI, .tup ss]), .sh (.tup (w.map .int)), .sh (.int q), z])
    (Ex := fun _ _ => False) (pre := []) (post := w.map .int) (e := [.sh (.tup [.int kI, .tup ss]), .sh (.tup (w.map .int)), .sh (.int 0), .un]) (fun pre d post e ⟨q, v, z, e1, e2, q0, q1, e3, e4⟩ => by
      subst e4
      match v, e1, e2, e3 with
      | a :: v, e1, e2, e3 =>
        cases e1
        have ha := e2 a List.mem_cons_self
        left
        by_cases hq : 0 ≤ q
        · obtain ⟨ac, f, x1, x2, x3, x4⟩ := nx_ok h hL hq q1 ha.1 ha.2
          refine ⟨_, ?_, nxD ss q a, v, .sh (.int a), rfl, fun b hb => e2 b (List.mem_cons_of_mem _ hb), x3, x4, by rw [e3, sAft, if_pos hq], rfl⟩
          show ev G (run G fs n) _ [.sh (.tup [.int kI, .tup ss]), .sh (.tup (w.map .int)), .sh (.int q), .sh (.int a)] = _
          simp only [ev, ↓Res.bind_hide, Res.bindC_ok, Res.bindC_ex, flOf_fl, tstOf_bl, argsOf_args, valOf_val, itsOf_its, List.getElem?_cons_zero, List.getElem?_cons_succ, look_nil, look_vl, look_nm, hand_nil, hand_vl, hand_nm, handM_sh, handM_ow, once_nil, once_vl, once_nm, onceM_sh, onceM_ow, isNm, List.any_nil, List.any_cons, back_nil, back_vl, back_nm, backM_sh, backM_ow, vals_nil, vals_vl, d_sh, d_ow, down_sh, down_ow, Option.bind_some, Option.map_some, pIx_0, pIx_4, ixN_4, cop_eq, cop_ne, cop_gt, cop_lt, cop_le, cop_ge, ofO_some, bop_add, bop_sub, uop_sub, pow18, blt_int, blt_len, blt_abs, blt_list, blt_isi, decide_eq_true_eq, ↓reduceIte, decide_false, decide_true, Bool.false_eq_true, List.length_cons, List.length_nil, Nat.zero_add, Nat.reduceAdd, Nat.reduceLeDiff, Nat.reduceEqDiff, Nat.reduceBEq, List.set_cons_zero, List.set_cons_succ, Nat.reduceLT, Bool.not_true, Bool.not_false, Bool.or_false, Bool.false_or, Bool.and_true, Bool.true_and, beq_self_eq_true, eq_self, ↓ev_seqK, seqK_nx, seqK_rt, seqK_bk, seqK_ct, seqK_ex, tr_bl, Rt_ok, isT_tup, valOf_ex, argsOf_ex, tstOf_ex, flOf_ex, itsOf_ex, pT0, pT1, Int.reduceEq, Int.reduceLT, Int.reduceLE, hq, x1, x2]
        · refine ⟨_, ?_, q, v, .sh (.int a), rfl, fun b hb => e2 b (List.mem_cons_of_mem _ hb), q0, q1, by rw [e3, sAft, if_neg hq], rfl⟩
          show ev G (run G fs n) _ [.sh (.tup [.int kI, .tup ss]), .sh (.tup (w.map .int)), .sh (.int q), .sh (.int a)] = _
          simp only [ev, ↓Res.bind_hide, Res.bindC_ok, Res.bindC_ex, flOf_fl, tstOf_bl, argsOf_args, valOf_val, itsOf_its, List.getElem?_cons_zero, List.getElem?_cons_succ, look_nil, look_vl, look_nm, hand_nil, hand_vl, hand_nm, handM_sh, handM_ow, once_nil, once_vl, once_nm, onceM_sh, onceM_ow, isNm, List.any_nil, List.any_cons, back_nil, back_vl, back_nm, backM_sh, backM_ow, vals_nil, vals_vl, d_sh, d_ow, down_sh, down_ow, Option.bind_some, Option.map_some, pIx_0, pIx_4, ixN_4, cop_eq, cop_ne, cop_gt, cop_lt, cop_le, cop_ge, ofO_some, bop_add, bop_sub, uop_sub, pow18, blt_int, blt_len, blt_abs, blt_list, blt_isi, decide_eq_true_eq, ↓reduceIte, decide_false, decide_true, Bool.false_eq_true, List.length_cons, List.length_nil, Nat.zero_add, Nat.reduceAdd, Nat.reduceLeDiff, Nat.reduceEqDiff, Nat.reduceBEq, List.set_cons_zero, List.set_cons_succ, Nat.reduceLT, Bool.not_true, Bool.not_false, Bool.or_false, Bool.false_or, Bool.and_true, Bool.true_and, beq_self_eq_true, eq_self, ↓ev_seqK, seqK_nx, seqK_rt, seqK_bk, seqK_ct, seqK_ex, tr_bl, Rt_ok, isT_tup, valOf_ex, argsOf_ex, tstOf_ex, flOf_ex, itsOf_ex, pT0, pT1, Int.reduceEq, Int.reduceLT, Int.reduceLE, hq]) ⟨0, w, .un, rfl, hw, by decide, by omega, rfl, rfl⟩
  rcases key with ⟨e', k1, q, v, z, e1, _, _, _, e3, rfl⟩ | ⟨_, _, _, q⟩
  · have hv : v = [] := List.map_eq_nil_iff.mp e1.symm
    subst hv
    have hf : ev G (run G fs n) Fn.state_after.f0 [.sh (.tup [.int kI, .tup ss]), .sh (.tup (w.map .int)), .sh (.int 0), .un] = .ok (.fl .nx, [.sh (.tup [.int kI, .tup ss]), .sh (.tup (w.map .int)), .sh (.int q), z]) := by
      unfold Fn.state_after.f0
      rw [ev_forSh (i := 1) (ds := w.map .int) rfl rfl]
      exact k1
    rw [e3]
    unfold Fn.state_after.b Fn.state_after.s0 Fn.state_after.s1 Fn.state_after.s2
    simp only [ev, ↓Res.bind_hide, Res.bindC_ok, Res.bindC_ex, flOf_fl, tstOf_bl, argsOf_args, valOf_val, itsOf_its, List.getElem?_cons_zero, List.getElem?_cons_succ, look_nil, look_vl, look_nm, hand_nil, hand_vl, hand_nm, handM_sh, handM_ow, once_nil, once_vl, once_nm, onceM_sh, onceM_ow, isNm, List.any_nil, List.any_cons, back_nil, back_vl, back_nm, backM_sh, backM_ow, vals_nil, vals_vl, d_sh, d_ow, down_sh, down_ow, Option.bind_some, Option.map_some, pIx_0, pIx_4, ixN_4, cop_eq, cop_ne, cop_gt, cop_lt, cop_le, cop_ge, ofO_some, bop_add, bop_sub, uop_sub, pow18, blt_int, blt_len, blt_abs, blt_list, blt_isi, decide_eq_true_eq, ↓reduceIte, decide_false, decide_true, Bool.false_eq_true, List.length_cons, List.length_nil, Nat.zero_add, Nat.reduceAdd, Nat.reduceLeDiff, Nat.reduceEqDiff, Nat.reduceBEq, List.set_cons_zero, List.set_cons_succ, Nat.reduceLT, Bool.not_true, Bool.not_false, Bool.or_false, Bool.false_or, Bool.and_true, Bool.true_and, beq_self_eq_true, eq_self, ↓ev_seqK, seqK_nx, seqK_rt, seqK_bk, seqK_ct, seqK_ex, tr_bl, Rt_ok, isT_tup, valOf_ex, argsOf_ex, tstOf_ex, flOf_ex, itsOf_ex, pT0, pT1, Int.reduceEq, Int.reduceLT, Int.reduceLE, hf, sAft]
  · exact q.elim
end
def aLD (k : Int) : D → Bool
  | .tup ds => ds.all fun d => wi d 0 (k - 1)
  | _ => false
def tlen : D → Nat
  | .tup ds => ds.length
  | _ => 0
def isWdD (k : Int) (x : D) : Bool := aLD k x && decide (tlen x ≤ 200)
section
variable [Has fs 4 Fn.is_whole] [Has fs 5 Fn.is_within] [Has fs 11 Fn.are_letters]
theorem run_are_letters {x : D} {m : Nat} {k : Int} (h : x.pl m = true) : run G fs (n + 1 + 1 + 1) 11 [.sh x, .sh (.int k)] = .ok (.sh (.bl (aLD k x)), [.sh x, .sh (.int k)]) := by
  refine run_sh (F := Fn.are_letters) rfl rfl ?_
  show Rt (ev G (C2 G fs n) Fn.are_letters.b [.sh x, .sh (.int k), .un]) _
  have hT := isi_isT h
  cases hx : isT x with
  | false =>
    have e : aLD k x = false := by cases x <;> first | rfl | cases hx
    rw [hx] at hT
    rw [e]
    unfold Fn.are_letters.b Fn.are_letters.s0
    simp only [ev, ↓Res.bind_hide, Res.bindC_ok, Res.bindC_ex, flOf_fl, tstOf_bl, argsOf_args, valOf_val, itsOf_its, List.getElem?_cons_zero, List.getElem?_cons_succ, look_nil, look_vl, look_nm, hand_nil, hand_vl, hand_nm, handM_sh, handM_ow, once_nil, once_vl, once_nm, onceM_sh, onceM_ow, isNm, List.any_nil, List.any_cons, back_nil, back_vl, back_nm, backM_sh, backM_ow, vals_nil, vals_vl, d_sh, d_ow, down_sh, down_ow, Option.bind_some, Option.map_some, pIx_0, pIx_4, ixN_4, cop_eq, cop_ne, cop_gt, cop_lt, cop_le, cop_ge, ofO_some, bop_add, bop_sub, uop_sub, pow18, blt_int, blt_len, blt_abs, blt_list, blt_isi, decide_eq_true_eq, ↓reduceIte, decide_false, decide_true, Bool.false_eq_true, List.length_cons, List.length_nil, Nat.zero_add, Nat.reduceAdd, Nat.reduceLeDiff, Nat.reduceEqDiff, Nat.reduceBEq, List.set_cons_zero, List.set_cons_succ, Nat.reduceLT, Bool.not_true, Bool.not_false, Bool.or_false, Bool.false_or, Bool.and_true, Bool.true_and, beq_self_eq_true, eq_self, ↓ev_seqK, seqK_nx, seqK_rt, seqK_bk, seqK_ct, seqK_ex, tr_bl, Rt_ok, isT_tup, valOf_ex, argsOf_ex, tstOf_ex, flOf_ex, itsOf_ex, pT0, pT1, Int.reduceEq, Int.reduceLT, Int.reduceLE, hT]
  | true =>
    cases x <;> first | (exact nomatch (show false = true from hx)) | skip
    rename_i ds
    obtain ⟨m, rfl⟩ : ∃ m', m = m' + 1 := by cases m with | zero => exact nomatch (show false = true from h) | succ m => exact ⟨m, rfl⟩
    have hp : D.pls m ds = true := h
    have key := forL_all (step := fSt G (C2 G fs n) (.tN 2) (.seq (.ifS (.tnot (.tv (.call 5 (.argN 2 (.consE (.cI 0) (.consE (.bop .Sub (.argN 1 (.consE (.cI 1) .nilE))) .nilE)))))) (.seq (.ret (.cB false)) .skip) .skip) .skip))
      (P := fun e => ∃ z, e = [.sh (.tup ds), .sh (.int k), z]) (g := fun d => wi d 0 (k - 1)) (s := .sh (.bl false)) (ds := ds) (e := [.sh (.tup ds), .sh (.int k), .un]) (fun d hd e ⟨z, he⟩ => by
        subst he
        have hw := run_is_within (G := G) (fs := fs) (n := n) (lo := 0) (hi := k - 1) (pls_mem hp d hd)
        refine ⟨_, ?_, .sh d, rfl⟩
        show ev G (C2 G fs n) _ [.sh (.tup ds), .sh (.int k), .sh d] = _
        cases hb : wi d 0 (k - 1) <;> (rw [hb] at hw; simp only [ev, ↓Res.bind_hide, Res.bindC_ok, Res.bindC_ex, flOf_fl, tstOf_bl, argsOf_args, valOf_val, itsOf_its, List.getElem?_cons_zero, List.getElem?_cons_succ, look_nil, look_vl, look_nm, hand_nil, hand_vl, hand_nm, handM_sh, handM_ow, once_nil, once_vl, once_nm, onceM_sh, onceM_ow, isNm, List.any_nil, List.any_cons, back_nil, back_vl, back_nm, backM_sh, backM_ow, vals_nil, vals_vl, d_sh, d_ow, down_sh, down_ow, Option.bind_some, Option.map_some, pIx_0, pIx_4, ixN_4, cop_eq, cop_ne, cop_gt, cop_lt, cop_le, cop_ge, ofO_some, bop_add, bop_sub, uop_sub, pow18, blt_int, blt_len, blt_abs, blt_list, blt_isi, decide_eq_true_eq, ↓reduceIte, decide_false, decide_true, Bool.false_eq_true, List.length_cons, List.length_nil, Nat.zero_add, Nat.reduceAdd, Nat.reduceLeDiff, Nat.reduceEqDiff, Nat.reduceBEq, List.set_cons_zero, List.set_cons_succ, Nat.reduceLT, Bool.not_true, Bool.not_false, Bool.or_false, Bool.false_or, Bool.and_true, Bool.true_and, beq_self_eq_true, eq_self, ↓ev_seqK, seqK_nx, seqK_rt, seqK_bk, seqK_ct, seqK_ex, tr_bl, Rt_ok, isT_tup, valOf_ex, argsOf_ex, tstOf_ex, flOf_ex, itsOf_ex, pT0, pT1, Int.reduceEq, Int.reduceLT, Int.reduceLE, hw])) ⟨.un, rfl⟩
    obtain ⟨e', h1, z, rfl⟩ := key
    have hf : ev G (C2 G fs n) Fn.are_letters.f0 [.sh (.tup ds), .sh (.int k), .un] = .ok (if (ds.all fun d => wi d 0 (k - 1)) = true then .fl .nx else .fl (.rt (.sh (.bl false))), [.sh (.tup ds), .sh (.int k), z]) := by
      unfold Fn.are_letters.f0
      rw [ev_forSh (i := 0) (ds := ds) rfl rfl]
      exact h1
    unfold Fn.are_letters.b Fn.are_letters.s0 Fn.are_letters.s1 Fn.are_letters.s2
    show Rt _ (.sh (.bl (ds.all fun d => wi d 0 (k - 1))))
    cases ha : ds.all fun d => wi d 0 (k - 1) <;> (rw [ha] at hf; simp only [ev, ↓Res.bind_hide, Res.bindC_ok, Res.bindC_ex, flOf_fl, tstOf_bl, argsOf_args, valOf_val, itsOf_its, List.getElem?_cons_zero, List.getElem?_cons_succ, look_nil, look_vl, look_nm, hand_nil, hand_vl, hand_nm, handM_sh, handM_ow, once_nil, once_vl, once_nm, onceM_sh, onceM_ow, isNm, List.any_nil, List.any_cons, back_nil, back_vl, back_nm, backM_sh, backM_ow, vals_nil, vals_vl, d_sh, d_ow, down_sh, down_ow, Option.bind_some, Option.map_some, pIx_0, pIx_4, ixN_4, cop_eq, cop_ne, cop_gt, cop_lt, cop_le, cop_ge, ofO_some, bop_add, bop_sub, uop_sub, pow18, blt_int, blt_len, blt_abs, blt_list, blt_isi, decide_eq_true_eq, ↓reduceIte, decide_false, decide_true, Bool.false_eq_true, List.length_cons, List.length_nil, Nat.zero_add, Nat.reduceAdd, Nat.reduceLeDiff, Nat.reduceEqDiff, Nat.reduceBEq, List.set_cons_zero, List.set_cons_succ, Nat.reduceLT, Bool.not_true, Bool.not_false, Bool.or_false, Bool.false_or, Bool.and_true, Bool.true_and, beq_self_eq_true, eq_self, ↓ev_seqK, seqK_nx, seqK_rt, seqK_bk, seqK_ct, seqK_ex, tr_bl, Rt_ok, isT_tup, valOf_ex, argsOf_ex, tstOf_ex, flOf_ex, itsOf_ex, pT0, pT1, Int.reduceEq, Int.reduceLT, Int.reduceLE, hT, hf])
variable [Has fs 12 Fn.is_word] [hU : HasC G 4 (.int 200)]
theorem run_is_word {x : D} {m : Nat} {k : Int} (h : x.pl m = true) : run G fs (n + 1 + 1 + 1 + 1) 12 [.sh x, .sh (.int k)] = .ok (.sh (.bl (isWdD k x)), [.sh x, .sh (.int k)]) := by
  refine run_sh (F := Fn.is_word) rfl rfl ?_
  show Rt (ev G (C3 G fs n) Fn.is_word.b [.sh x, .sh (.int k)]) _
  have ha := run_are_letters (G := G) (fs := fs) (n := n) (k := k) h
  unfold isWdD Fn.is_word.b
  cases hx : aLD k x with
  | false => rw [hx] at ha; simp only [ev, ↓Res.bind_hide, Res.bindC_ok, Res.bindC_ex, flOf_fl, tstOf_bl, argsOf_args, valOf_val, itsOf_its, List.getElem?_cons_zero, List.getElem?_cons_succ, look_nil, look_vl, look_nm, hand_nil, hand_vl, hand_nm, handM_sh, handM_ow, once_nil, once_vl, once_nm, onceM_sh, onceM_ow, isNm, List.any_nil, List.any_cons, back_nil, back_vl, back_nm, backM_sh, backM_ow, vals_nil, vals_vl, d_sh, d_ow, down_sh, down_ow, Option.bind_some, Option.map_some, pIx_0, pIx_4, ixN_4, cop_eq, cop_ne, cop_gt, cop_lt, cop_le, cop_ge, ofO_some, bop_add, bop_sub, uop_sub, pow18, blt_int, blt_len, blt_abs, blt_list, blt_isi, decide_eq_true_eq, ↓reduceIte, decide_false, decide_true, Bool.false_eq_true, List.length_cons, List.length_nil, Nat.zero_add, Nat.reduceAdd, Nat.reduceLeDiff, Nat.reduceEqDiff, Nat.reduceBEq, List.set_cons_zero, List.set_cons_succ, Nat.reduceLT, Bool.not_true, Bool.not_false, Bool.or_false, Bool.false_or, Bool.and_true, Bool.true_and, beq_self_eq_true, eq_self, ↓ev_seqK, seqK_nx, seqK_rt, seqK_bk, seqK_ct, seqK_ex, tr_bl, Rt_ok, isT_tup, valOf_ex, argsOf_ex, tstOf_ex, flOf_ex, itsOf_ex, pT0, pT1, Int.reduceEq, Int.reduceLT, Int.reduceLE, ha, Bool.false_and]
  | true =>
    rw [hx] at ha
    cases x <;> first | (exact nomatch (show false = true from hx)) | skip
    rename_i ds
    obtain ⟨L, hL⟩ : ∃ L : Int, L = (ds.length : Int) := ⟨_, rfl⟩
    have hlen : pBlt .len [.tup ds] = some (.sh (.int L)) := by rw [hL]; rfl
    have e : decide (tlen (.tup ds) ≤ 200) = decide (L ≤ 200) := by rw [hL, Bool.eq_iff_iff, decide_eq_true_eq, decide_eq_true_eq]; show ds.length ≤ 200 ↔ _; omega
    rw [e]
    by_cases h2 : L ≤ 200 <;> simp only [ev, ↓Res.bind_hide, Res.bindC_ok, Res.bindC_ex, flOf_fl, tstOf_bl, argsOf_args, valOf_val, itsOf_its, List.getElem?_cons_zero, List.getElem?_cons_succ, look_nil, look_vl, look_nm, hand_nil, hand_vl, hand_nm, handM_sh, handM_ow, once_nil, once_vl, once_nm, onceM_sh, onceM_ow, isNm, List.any_nil, List.any_cons, back_nil, back_vl, back_nm, backM_sh, backM_ow, vals_nil, vals_vl, d_sh, d_ow, down_sh, down_ow, Option.bind_some, Option.map_some, pIx_0, pIx_4, ixN_4, cop_eq, cop_ne, cop_gt, cop_lt, cop_le, cop_ge, ofO_some, bop_add, bop_sub, uop_sub, pow18, blt_int, blt_len, blt_abs, blt_list, blt_isi, decide_eq_true_eq, ↓reduceIte, decide_false, decide_true, Bool.false_eq_true, List.length_cons, List.length_nil, Nat.zero_add, Nat.reduceAdd, Nat.reduceLeDiff, Nat.reduceEqDiff, Nat.reduceBEq, List.set_cons_zero, List.set_cons_succ, Nat.reduceLT, Bool.not_true, Bool.not_false, Bool.or_false, Bool.false_or, Bool.and_true, Bool.true_and, beq_self_eq_true, eq_self, ↓ev_seqK, seqK_nx, seqK_rt, seqK_bk, seqK_ct, seqK_ex, tr_bl, Rt_ok, isT_tup, valOf_ex, argsOf_ex, tstOf_ex, flOf_ex, itsOf_ex, pT0, pT1, Int.reduceEq, Int.reduceLT, Int.reduceLE, ha, hlen, hU.e, h2]
end
theorem aLD_ints {k : Int} {ds : List D} (h : aLD k (.tup ds) = true) : ∃ w : List Int, ds = w.map .int ∧ ∀ a ∈ w, 0 ≤ a ∧ a < k := by
  have h' : ds.all (fun d => wi d 0 (k - 1)) = true := h
  clear h
  induction ds with
  | nil => exact ⟨[], rfl, nofun⟩
  | cons d ds ih =>
    rw [List.all_cons, Bool.and_eq_true] at h'
    obtain ⟨i, rfl, i0, i1⟩ := wi_int h'.1
    obtain ⟨w, rfl, hw⟩ := ih h'.2
    exact ⟨i :: w, rfl, fun a ha => by
      rcases List.mem_cons.mp ha with rfl | ha
      · omega
      · exact hw a ha⟩
theorem ints_aLD {k : Int} {w : List Int} (h : ∀ a ∈ w, 0 ≤ a ∧ a < k) : aLD k (.tup (w.map .int)) = true := by
  show ((w.map D.int).all fun d => wi d 0 (k - 1)) = true
  rw [List.all_map, List.all_eq_true]
  intro a ha
  obtain ⟨h0, h1⟩ := h a ha
  show (decide (0 ≤ a) && decide (a ≤ k - 1)) = true
  rw [decide_eq_true h0, decide_eq_true (by omega)]
  rfl
section
variable [Has fs 4 Fn.is_whole] [Has fs 5 Fn.is_within] [Has fs 6 Fn.has] [Has fs 7 Fn.is_state] [Has fs 8 Fn.is_demand] [hP : HasC G 0 (.tup [.int 1, .int 2, .int 4, .int 8, .int 16])] [hQ : HasC G 1 (.tup [.int 1, .int 2, .int 4, .int 8, .int 16, .int 32])] [hR : HasC G 2 (.int 5)] [hS : HasC G 3 (.int 40)]
variable [Has fs 9 Fn.check_demand] [Has fs 10 Fn.state_after] [Has fs 11 Fn.are_letters] [Has fs 12 Fn.is_word] [Has fs 13 Fn.led_to] [hU : HasC G 4 (.int 200)]
abbrev C5 (G : Sig) (fs : FS) (n : Nat) := run G fs (n + 1 + 1 + 1 + 1 + 1)
/-- no demand -/
theorem run_led_no {x y : D} {m : Nat} (h : x.pl m = true) (hd : isDemD x = false) : run G fs (n + 1 + 1 + 1 + 1 + 1 + 1) 13 [.sh x, .sh y] = .ex "BadDemand" := by
  have hc := run_check_demand (G := G) (fs := fs) (n := n) h
  rw [hd] at hc
  refine run_ex (F := Fn.led_to) rfl ?_
  show ev G (C5 G fs n) Fn.led_to.b [.sh x, .sh y] = _
  unfold Fn.led_to.b Fn.led_to.s0
  simp only [ev, ↓Res.bind_hide, Res.bindC_ok, Res.bindC_ex, flOf_fl, tstOf_bl, argsOf_args, valOf_val, itsOf_its, List.getElem?_cons_zero, List.getElem?_cons_succ, look_nil, look_vl, look_nm, hand_nil, hand_vl, hand_nm, handM_sh, handM_ow, once_nil, once_vl, once_nm, onceM_sh, onceM_ow, isNm, List.any_nil, List.any_cons, back_nil, back_vl, back_nm, backM_sh, backM_ow, vals_nil, vals_vl, d_sh, d_ow, down_sh, down_ow, Option.bind_some, Option.map_some, pIx_0, pIx_4, ixN_4, cop_eq, cop_ne, cop_gt, cop_lt, cop_le, cop_ge, ofO_some, bop_add, bop_sub, uop_sub, pow18, blt_int, blt_len, blt_abs, blt_list, blt_isi, decide_eq_true_eq, ↓reduceIte, decide_false, decide_true, Bool.false_eq_true, List.length_cons, List.length_nil, Nat.zero_add, Nat.reduceAdd, Nat.reduceLeDiff, Nat.reduceEqDiff, Nat.reduceBEq, List.set_cons_zero, List.set_cons_succ, Nat.reduceLT, Bool.not_true, Bool.not_false, Bool.or_false, Bool.false_or, Bool.and_true, Bool.true_and, beq_self_eq_true, eq_self, ↓ev_seqK, seqK_nx, seqK_rt, seqK_bk, seqK_ct, seqK_ex, tr_bl, Rt_ok, isT_tup, valOf_ex, argsOf_ex, tstOf_ex, flOf_ex, itsOf_ex, pT0, pT1, Int.reduceEq, Int.reduceLT, Int.reduceLE, hc]
/-- a demand, no word -/
theorem run_led_bad {k : Nat} {ss : List D} {y : D} {m m2 : Nat} (h : (D.tup [.int k, .tup ss]).pl m = true) (hy : y.pl m2 = true) (hd : isDemD (.tup [.int k, .tup ss]) = true) (hw : isWdD k y = false) : run G fs (n + 1 + 1 + 1 + 1 + 1 + 1) 13 [.sh (.tup [.int k, .tup ss]), .sh y] = .ex "BadWord" := by
  have hc := run_check_demand (G := G) (fs := fs) (n := n) h
  have hi := run_is_word (G := G) (fs := fs) (n := n + 1) (k := (k : Int)) hy
  rw [hd] at hc
  rw [hw] at hi
  refine run_ex (F := Fn.led_to) rfl ?_
  show ev G (C5 G fs n) Fn.led_to.b [.sh (.tup [.int k, .tup ss]), .sh y] = _
  unfold Fn.led_to.b Fn.led_to.s0 Fn.led_to.s1
  simp only [ev, ↓Res.bind_hide, Res.bindC_ok, Res.bindC_ex, flOf_fl, tstOf_bl, argsOf_args, valOf_val, itsOf_its, List.getElem?_cons_zero, List.getElem?_cons_succ, look_nil, look_vl, look_nm, hand_nil, hand_vl, hand_nm, handM_sh, handM_ow, once_nil, once_vl, once_nm, onceM_sh, onceM_ow, isNm, List.any_nil, List.any_cons, back_nil, back_vl, back_nm, backM_sh, backM_ow, vals_nil, vals_vl, d_sh, d_ow, down_sh, down_ow, Option.bind_some, Option.map_some, pIx_0, pIx_4, ixN_4, cop_eq, cop_ne, cop_gt, cop_lt, cop_le, cop_ge, ofO_some, bop_add, bop_sub, uop_sub, pow18, blt_int, blt_len, blt_abs, blt_list, blt_isi, decide_eq_true_eq, ↓reduceIte, decide_false, decide_true, Bool.false_eq_true, List.length_cons, List.length_nil, Nat.zero_add, Nat.reduceAdd, Nat.reduceLeDiff, Nat.reduceEqDiff, Nat.reduceBEq, List.set_cons_zero, List.set_cons_succ, Nat.reduceLT, Bool.not_true, Bool.not_false, Bool.or_false, Bool.false_or, Bool.and_true, Bool.true_and, beq_self_eq_true, eq_self, ↓ev_seqK, seqK_nx, seqK_rt, seqK_bk, seqK_ct, seqK_ex, tr_bl, Rt_ok, isT_tup, valOf_ex, argsOf_ex, tstOf_ex, flOf_ex, itsOf_ex, pT0, pT1, Int.reduceEq, Int.reduceLT, Int.reduceLE, hc, hi]
theorem run_led {k : Nat} {ss : List D} {w : List Int} {m : Nat} (h : (D.tup [.int k, .tup ss]).pl m = true) (hd : isDemD (.tup [.int k, .tup ss]) = true) (hw : ∀ a ∈ w, 0 ≤ a ∧ a < (k : Int)) (hl : w.length ≤ 200) :
    run G fs (n + 1 + 1 + 1 + 1 + 1 + 1) 13 [.sh (.tup [.int k, .tup ss]), .sh (.tup (w.map .int))] = .ok (.sh (.int (sAft ss 0 w)), [.sh (.tup [.int k, .tup ss]), .sh (.tup (w.map .int))]) := by
  have hc := run_check_demand (G := G) (fs := fs) (n := n) h
  have hpl : (D.tup (w.map .int)).pl 1 = true := pls_of fun d hd => by
    obtain ⟨i, _, rfl⟩ := List.mem_map.mp hd
    exact pl_int
  have hi := run_is_word (G := G) (fs := fs) (n := n + 1) (k := (k : Int)) hpl
  have hw1 : isWdD k (.tup (w.map .int)) = true := by
    unfold isWdD
    rw [ints_aLD hw]
    exact decide_eq_true (by show (w.map D.int).length ≤ 200; rw [List.length_map]; exact hl)
  rw [hw1] at hi
  have hd2 := hd
  obtain ⟨k', ss', e, _, h1, _, h3⟩ := isDemD_form hd
  cases e
  have hs := run_state_after (G := G) (fs := fs) (n := n + 1 + 1 + 1 + 1) h3 h1 hw
  rw [hd2] at hc
  refine run_sh (F := Fn.led_to) rfl rfl ?_
  show Rt (ev G (C5 G fs n) Fn.led_to.b [.sh (.tup [.int k, .tup ss]), .sh (.tup (w.map .int))]) _
  unfold Fn.led_to.b Fn.led_to.s0 Fn.led_to.s1 Fn.led_to.s2
  simp only [ev, ↓Res.bind_hide, Res.bindC_ok, Res.bindC_ex, flOf_fl, tstOf_bl, argsOf_args, valOf_val, itsOf_its, List.getElem?_cons_zero, List.getElem?_cons_succ, look_nil, look_vl, look_nm, hand_nil, hand_vl, hand_nm, handM_sh, handM_ow, once_nil, once_vl, once_nm, onceM_sh, onceM_ow, isNm, List.any_nil, List.any_cons, back_nil, back_vl, back_nm, backM_sh, backM_ow, vals_nil, vals_vl, d_sh, d_ow, down_sh, down_ow, Option.bind_some, Option.map_some, pIx_0, pIx_4, ixN_4, cop_eq, cop_ne, cop_gt, cop_lt, cop_le, cop_ge, ofO_some, bop_add, bop_sub, uop_sub, pow18, blt_int, blt_len, blt_abs, blt_list, blt_isi, decide_eq_true_eq, ↓reduceIte, decide_false, decide_true, Bool.false_eq_true, List.length_cons, List.length_nil, Nat.zero_add, Nat.reduceAdd, Nat.reduceLeDiff, Nat.reduceEqDiff, Nat.reduceBEq, List.set_cons_zero, List.set_cons_succ, Nat.reduceLT, Bool.not_true, Bool.not_false, Bool.or_false, Bool.false_or, Bool.and_true, Bool.true_and, beq_self_eq_true, eq_self, ↓ev_seqK, seqK_nx, seqK_rt, seqK_bk, seqK_ct, seqK_ex, tr_bl, Rt_ok, isT_tup, valOf_ex, argsOf_ex, tstOf_ex, flOf_ex, itsOf_ex, pT0, pT1, Int.reduceEq, Int.reduceLT, Int.reduceLE, hc, hi, hs]
end
section
variable [Has fs 16 Fn.anything] [Has fs 17 Fn.nothing] [hQ : HasC G 1 (.tup [.int 1, .int 2, .int 4, .int 8, .int 16, .int 32])]
theorem rep_one {d : D} : ∀ n : Nat, (List.replicate n [d]).flatten = List.replicate n d
  | 0 => rfl
  | n + 1 => by rw [List.replicate_succ, List.flatten_cons, rep_one n, List.replicate_succ]; rfl
theorem mul_one {d : D} {k : Int} (h0 : 0 ≤ k) (h1 : k ≤ 1000) : pBop .Mult (.tup [d]) (.int k) = some (.sh (.tup (List.replicate k.toNat d))) := by
  show (if k ≤ 1000 ∧ -1000 ≤ k ∧ [d].length ≤ 1000 then slV (.tup (List.replicate k.toNat [d]).flatten) else none) = _
  rw [if_pos ⟨h1, by omega, by show 1 ≤ 1000; decide⟩, rep_one]
  rfl
def anyD (k : Nat) : D := .tup [.int k, .tup [.tup [.tup (rngL 0 (2 ^ k)), .tup (List.replicate k (.int 0))]]]
def nilD (k : Nat) : D := .tup [.int k, .tup [.tup [.tup [], .tup (List.replicate k (.int (-1)))]]]
theorem pow_le {k : Nat} (h : k < 6) : (0 : Int) < 2 ^ k ∧ (2 : Int) ^ k ≤ 32 := by
  match k, h with
  | 0, _ => decide
  | 1, _ => decide
  | 2, _ => decide
  | 3, _ => decide
  | 4, _ => decide
  | 5, _ => decide
theorem run_anything {k : Nat} (hk : k < 6) : run G fs (n + 1) 16 [.sh (.int k)] = .ok (.sh (anyD k), [.sh (.int k)]) := by
  refine run_sh (F := Fn.anything) rfl rfl ?_
  show Rt (ev G (run G fs n) Fn.anything.b [.sh (.int k)]) _
  have six := pw_ix6 k hk
  have hp := pow_le hk
  have hm := mul_one (d := .int 0) (k := (k : Int)) (by omega) (by omega)
  unfold anyD
  rw [Int.toNat_natCast] at hm
  obtain ⟨kI, hkI⟩ : ∃ kI : Int, kI = (k : Int) := ⟨_, rfl⟩
  rw [← hkI] at six hm ⊢
  obtain ⟨pI, hpI⟩ : ∃ pI : Int, pI = 2 ^ k := ⟨_, rfl⟩
  rw [← hpI] at six hp ⊢
  have hr : pTupR [.int pI] = some (.sh (.tup (rngL 0 pI))) := by
    show (if rgB 0 pI = true then _ else _) = _
    rw [rgB' (by omega) (by omega)]
    rfl
  have l1 : 1 ≤ sizeLine := sz (by decide)
  have l2 : 2 ≤ sizeLine := sz (by decide)
  unfold Fn.anything.b
  simp only [ev, ↓Res.bind_hide, Res.bindC_ok, Res.bindC_ex, flOf_fl, tstOf_bl, argsOf_args, valOf_val, itsOf_its, List.getElem?_cons_zero, List.getElem?_cons_succ, look_nil, look_vl, look_nm, hand_nil, hand_vl, hand_nm, handM_sh, handM_ow, once_nil, once_vl, once_nm, onceM_sh, onceM_ow, isNm, List.any_nil, List.any_cons, back_nil, back_vl, back_nm, backM_sh, backM_ow, vals_nil, vals_vl, d_sh, d_ow, down_sh, down_ow, Option.bind_some, Option.map_some, pIx_0, pIx_4, ixN_4, cop_eq, cop_ne, cop_gt, cop_lt, cop_le, cop_ge, ofO_some, bop_add, bop_sub, uop_sub, pow18, blt_int, blt_len, blt_abs, blt_list, blt_isi, decide_eq_true_eq, ↓reduceIte, decide_false, decide_true, Bool.false_eq_true, List.length_cons, List.length_nil, Nat.zero_add, Nat.reduceAdd, Nat.reduceLeDiff, Nat.reduceEqDiff, Nat.reduceBEq, List.set_cons_zero, List.set_cons_succ, Nat.reduceLT, Bool.not_true, Bool.not_false, Bool.or_false, Bool.false_or, Bool.and_true, Bool.true_and, beq_self_eq_true, eq_self, ↓ev_seqK, seqK_nx, seqK_rt, seqK_bk, seqK_ct, seqK_ex, tr_bl, Rt_ok, isT_tup, valOf_ex, argsOf_ex, tstOf_ex, flOf_ex, itsOf_ex, pT0, pT1, Int.reduceEq, Int.reduceLT, Int.reduceLE, hQ.e, six, hr, hm, l1, l2]
theorem run_nothing {k : Nat} (hk : k < 6) : run G fs (n + 1) 17 [.sh (.int k)] = .ok (.sh (nilD k), [.sh (.int k)]) := by
  refine run_sh (F := Fn.nothing) rfl rfl ?_
  show Rt (ev G (run G fs n) Fn.nothing.b [.sh (.int k)]) _
  have hm := mul_one (d := .int (-1)) (k := (k : Int)) (by omega) (by omega)
  rw [Int.toNat_natCast] at hm
  unfold nilD
  obtain ⟨kI, hkI⟩ : ∃ kI : Int, kI = (k : Int) := ⟨_, rfl⟩
  rw [← hkI] at hm ⊢
  have l0 : 0 ≤ sizeLine := sz (by decide)
  have l1 : 1 ≤ sizeLine := sz (by decide)
  have l2 : 2 ≤ sizeLine := sz (by decide)
  unfold Fn.nothing.b
  simp only [ev, ↓Res.bind_hide, Res.bindC_ok, Res.bindC_ex, flOf_fl, tstOf_bl, argsOf_args, valOf_val, itsOf_its, List.getElem?_cons_zero, List.getElem?_cons_succ, look_nil, look_vl, look_nm, hand_nil, hand_vl, hand_nm, handM_sh, handM_ow, once_nil, once_vl, once_nm, onceM_sh, onceM_ow, isNm, List.any_nil, List.any_cons, back_nil, back_vl, back_nm, backM_sh, backM_ow, vals_nil, vals_vl, d_sh, d_ow, down_sh, down_ow, Option.bind_some, Option.map_some, pIx_0, pIx_4, ixN_4, cop_eq, cop_ne, cop_gt, cop_lt, cop_le, cop_ge, ofO_some, bop_add, bop_sub, uop_sub, pow18, blt_int, blt_len, blt_abs, blt_list, blt_isi, decide_eq_true_eq, ↓reduceIte, decide_false, decide_true, Bool.false_eq_true, List.length_cons, List.length_nil, Nat.zero_add, Nat.reduceAdd, Nat.reduceLeDiff, Nat.reduceEqDiff, Nat.reduceBEq, List.set_cons_zero, List.set_cons_succ, Nat.reduceLT, Bool.not_true, Bool.not_false, Bool.or_false, Bool.false_or, Bool.and_true, Bool.true_and, beq_self_eq_true, eq_self, ↓ev_seqK, seqK_nx, seqK_rt, seqK_bk, seqK_ct, seqK_ex, tr_bl, Rt_ok, isT_tup, valOf_ex, argsOf_ex, tstOf_ex, flOf_ex, itsOf_ex, pT0, pT1, Int.reduceEq, Int.reduceLT, Int.reduceLE, hm, l0, l1, l2]
end
end
end RF


/-! LD: a demand that is drawn -/
namespace RF
open PySem PySem.Spec PyProof.Rows L2
/-- _law_demand -/
def Fn.law_demand.s0 : I := (.asg (.tN 3) (.bop .Add (.consE (.cI 1) (.consE (.call 1 (.argN 0 (.argN 2 .nilE))) .nilE))))
def Fn.law_demand.s1 : I := (.asg (.tN 4) (.lstE .nilE))
def Fn.law_demand.c0 : I := (.lcO [8] 6 (.tN 8) (.ifC (.tcp .Eq (.consE (.bop .Mod (.consE (.bop .FloorDiv (.consE (.blt .int_ (.argN 8 .nilE)) (.consE (.ixe (.consE (.lstE (.consE (.cI 1) (.consE (.cI 2) (.consE (.cI 4) (.consE (.cI 8) (.consE (.cI 16) .nilE)))))) (.argN 11 .nilE))) .nilE))) (.consE (.cI 2) .nilE))) (.consE (.cI 1) .nilE)))) (.var 8))
def Fn.law_demand.f0 : I := (.forS (.tN 11) (.itR (.argN 1 .nilE))
  (.seq (.asg (.tN 9) (.blt .len (.consE Fn.law_demand.c0 .nilE)))
  (.seq (.ifS (.tand (.tcp .Eq (.argN 9 (.consE (.cI 0) .nilE))) (.tcp .Gt (.consE (.call 1 (.argN 0 (.consE (.cI 3) .nilE))) (.consE (.cI 0) .nilE))))
  (.seq (.app 10 (.uop .USub (.consE (.cI 1) .nilE)))
  .skip)
  (.seq (.app 10 (.call 1 (.argN 0 (.argN 3 .nilE))))
  .skip))
  .skip)))
def Fn.law_demand.f1 : I := (.forS (.tN 7) (.itR (.consE (.call 2 (.argN 0 (.consE (.lstE (.consE (.cI 0) (.consE (.cI 1) (.consE (.cI 1) (.consE (.cI 2) (.consE (.cI 2) (.consE (.cI 3) (.consE (.cI 4) .nilE)))))))) .nilE))) .nilE))
  (.seq (.asg (.tN 8) (.call 1 (.argN 0 (.consE (.ixe (.consE (.lstE (.consE (.cI 1) (.consE (.cI 2) (.consE (.cI 4) (.consE (.cI 8) (.consE (.cI 16) (.consE (.cI 32) .nilE))))))) (.argN 1 .nilE))) .nilE))))
  (.seq (.ifS (.tcp .NotIn (.argN 8 (.argN 6 .nilE)))
  (.seq (.app 6 (.var 8))
  .skip)
  .skip)
  .skip)))
def Fn.law_demand.f2 : I := (.forS (.tN 5) (.itR (.argN 3 .nilE))
  (.seq (.asg (.tN 6) (.lstE .nilE))
  (.seq Fn.law_demand.f1
  (.seq (.asg (.tN 9) (.cI 0))
  (.seq (.asg (.tN 10) (.lstE .nilE))
  (.seq Fn.law_demand.f0
  (.seq (.app 4 (.tupE (.consE (.blt .tuple_ (.consE (.blt .sorted_ (.argN 6 .nilE)) .nilE)) (.consE (.blt .tuple_ (.argN 10 .nilE)) .nilE))))
  .skip)))))))
def Fn.law_demand.s2 : I := Fn.law_demand.f2
def Fn.law_demand.s3 : I := (.ret (.tupE (.consE (.var 1) (.consE (.blt .tuple_ (.argN 4 .nilE)) .nilE))))
def Fn.law_demand.b : I :=
  (.seq Fn.law_demand.s0 (.seq Fn.law_demand.s1 (.seq Fn.law_demand.s2 (.seq Fn.law_demand.s3 .skip))))
def Fn.law_demand : FDef := ⟨3, 12, [true, true, true], Fn.law_demand.b⟩
section
variable {G : Sig} {fs : FS} {n : Nat}
variable [hT : Has fs 1 takeF] [Has fs 2 Fn.law_pick]
abbrev iL (l : List Int) : D := .lst (l.map .int)
theorem pick_ints {menu : List Int} {B : Box} (h : B.Ok) (h0 : 0 < menu.length) (h1 : menu.length < 1000) :
    ∃ (c : Int) (B' : Box), run G fs (n + 1 + 1) 2 [B.sl, .ow (iL menu)] = .ok (.sh (.int c), [B'.sl, .ow (iL menu)]) ∧ c ∈ menu ∧ B'.Ok := by
  obtain ⟨r, d, B', h2, h3, h4⟩ := run_pick (G := G) (fs := fs) (n := n) (menu := .ow (iL menu)) (ds := menu.map .int) (.inl rfl) h (by rw [List.length_map]; exact h0) (by rw [List.length_map]; omega)
  obtain ⟨c, hc, rfl⟩ := List.mem_map.mp (List.mem_of_getElem? h3)
  exact ⟨c, B', h2, hc, h4⟩
theorem dem_f1 {k : Nat} (hk : k < 6) {B : Box} (hB : B.Ok) {y2 y3 y4 y5 y7 y8 y9 y10 y11 : Sl} (h8 : ∀ d, y8 ≠ .ow d) :
    ∃ B' A z7 z8, ev G (C2 G fs n) Fn.law_demand.f1 [B.sl, .sh (.int k), y2, y3, y4, y5, .ow (.lst []), y7, y8, y9, y10, y11] = .ok (.fl .nx, [Box.sl B', .sh (.int k), y2, y3, y4, y5, .ow (iL A), z7, z8, y9, y10, y11]) ∧
      B'.Ok ∧ A.Nodup ∧ (∀ b ∈ A, 0 ≤ b ∧ b < 2 ^ k) ∧ A.length ≤ 4 ∧ ∀ d, z8 ≠ .ow d := by
  obtain ⟨c, B1, h1, hc, ok1⟩ := pick_ints (G := G) (fs := fs) (n := n) (menu := [0, 1, 1, 2, 2, 3, 4]) hB (by decide) (by decide)
  have six : pIx (.lst [.int 1, .int 2, .int 4, .int 8, .int 16, .int 32]) (.int k) = some (.sh (.int (2 ^ k))) := pw_ix6L k hk
  have hp := pow_le hk
  have c0 : 0 ≤ c ∧ c ≤ 4 := by
    simp only [List.mem_cons, List.not_mem_nil, or_false] at hc
    omega
  obtain ⟨kI, hkI⟩ : ∃ kI : Int, kI = (k : Int) := ⟨_, rfl⟩
  obtain ⟨pI, hpI⟩ : ∃ pI : Int, pI = 2 ^ k := ⟨_, rfl⟩
  rw [← hkI] at six ⊢
  rw [← hpI] at six hp ⊢
  have l7 : 7 ≤ sizeLine := sz (by decide)
  have l6 : 6 ≤ sizeLine := sz (by decide)
  obtain ⟨N, rfl⟩ := Int.eq_ofNat_of_zero_le c0.1
  have hit : ev G (C2 G fs n) (.itR (.consE (.call 2 (.argN 0 (.consE (.lstE (.consE (.cI 0) (.consE (.cI 1) (.consE (.cI 1) (.consE (.cI 2) (.consE (.cI 2) (.consE (.cI 3) (.consE (.cI 4) .nilE)))))))) .nilE))) .nilE)) [B.sl, .sh (.int kI), y2, y3, y4, y5, .ow (.lst []), y7, y8, y9, y10, y11] = .ok (.its (rngL 0 N), [B1.sl, .sh (.int kI), y2, y3, y4, y5, .ow (.lst []), y7, y8, y9, y10, y11]) := by
    refine itR_val ?_ (inI' (by omega) (by omega))
    have h1' : C2 G fs n 2 [B.sl, .ow (.lst [.int 0, .int 1, .int 1, .int 2, .int 2, .int 3, .int 4])] = .ok (.sh (.int N), [B1.sl, .ow (.lst [.int 0, .int 1, .int 1, .int 2, .int 2, .int 3, .int 4])]) := h1
    simp only [ev, ↓Res.bind_hide, Res.bindC_ok, Res.bindC_ex, flOf_fl, tstOf_bl, argsOf_args, valOf_val, itsOf_its, List.getElem?_cons_zero, List.getElem?_cons_succ, look_nil, look_vl, look_nm, hand_nil, hand_vl, hand_nm, handM_sh, handM_ow, once_nil, once_vl, once_nm, onceM_sh, onceM_ow, isNm, List.any_nil, List.any_cons, back_nil, back_vl, back_nm, backM_sh, backM_ow, vals_nil, vals_vl, d_sh, d_ow, down_sh, down_ow, Option.bind_some, Option.map_some, pIx_0, pIx_4, ixN_4, cop_eq, cop_ne, cop_gt, cop_lt, cop_le, cop_ge, ofO_some, bop_add, bop_sub, uop_sub, pow18, blt_int, blt_len, blt_abs, blt_list, blt_isi, decide_eq_true_eq, ↓reduceIte, decide_false, decide_true, Bool.false_eq_true, List.length_cons, List.length_nil, Nat.zero_add, Nat.reduceAdd, Nat.reduceLeDiff, Nat.reduceEqDiff, Nat.reduceBEq, List.set_cons_zero, List.set_cons_succ, Nat.reduceLT, Bool.not_true, Bool.not_false, Bool.or_false, Bool.false_or, Bool.and_true, Bool.true_and, beq_self_eq_true, eq_self, ↓ev_seqK, seqK_nx, seqK_rt, seqK_bk, seqK_ct, seqK_ex, tr_bl, Rt_ok, isT_tup, valOf_ex, argsOf_ex, tstOf_ex, flOf_ex, itsOf_ex, pT0, pT1, Int.reduceEq, Int.reduceLT, Int.reduceLE, h1', l7]
  have key := forL_nat (step := fSt G (C2 G fs n) (.tN 7) (.seq (.asg (.tN 8) (.call 1 (.argN 0 (.consE (.ixe (.consE (.lstE (.consE (.cI 1) (.consE (.cI 2) (.consE (.cI 4) (.consE (.cI 8) (.consE (.cI 16) (.consE (.cI 32) .nilE))))))) (.argN 1 .nilE))) .nilE)))) (.seq (.ifS (.tcp .NotIn (.argN 8 (.argN 6 .nilE))) (.seq (.app 6 (.var 8)) .skip) .skip) .skip)))
    (P := fun j e => ∃ B A z7 z8, e = [Box.sl B, .sh (.int kI), y2, y3, y4, y5, .ow (iL A), z7, z8, y9, y10, y11] ∧ B.Ok ∧ A.Nodup ∧ (∀ b ∈ A, 0 ≤ b ∧ b < pI) ∧ A.length ≤ j ∧ ∀ d, z8 ≠ .ow d) (N := N) (ds := rngL 0 N) (by rw [len_rngL, Int.toNat_natCast])
    (e := [B1.sl, .sh (.int kI), y2, y3, y4, y5, .ow (.lst []), y7, y8, y9, y10, y11]) (fun j d e hd ⟨B, A, z7, z8, he, hB, nd, hA, hl, n8⟩ => by
      subst he
      obtain ⟨hj, rfl⟩ := rng_get hd
      obtain ⟨b, B2, h2, d2⟩ := run_take (G := G) (fs := fs) (n := n + 1) hT.e (m := pI) hB hp.1 (by omega)
      have b0 := d2.r0
      have b1 := d2.rm
      show ∃ e', ev G (C2 G fs n) _ [B.sl, .sh (.int kI), y2, y3, y4, y5, .ow (iL A), .sh (.int j), z8, y9, y10, y11] = _ ∧ _
      have hlz : (A.map D.int).length < sizeLine := by rw [List.length_map]; exact sz' (by omega)
      by_cases hin : b ∈ A
      · exact ⟨_, by simp only [ev, ↓Res.bind_hide, Res.bindC_ok, Res.bindC_ex, flOf_fl, tstOf_bl, argsOf_args, valOf_val, itsOf_its, List.getElem?_cons_zero, List.getElem?_cons_succ, look_nil, look_vl, look_nm, hand_nil, hand_vl, hand_nm, handM_sh, handM_ow, once_nil, once_vl, once_nm, onceM_sh, onceM_ow, isNm, List.any_nil, List.any_cons, back_nil, back_vl, back_nm, backM_sh, backM_ow, vals_nil, vals_vl, d_sh, d_ow, down_sh, down_ow, Option.bind_some, Option.map_some, pIx_0, pIx_4, ixN_4, cop_eq, cop_ne, cop_gt, cop_lt, cop_le, cop_ge, ofO_some, bop_add, bop_sub, uop_sub, pow18, blt_int, blt_len, blt_abs, blt_list, blt_isi, decide_eq_true_eq, ↓reduceIte, decide_false, decide_true, Bool.false_eq_true, List.length_cons, List.length_nil, Nat.zero_add, Nat.reduceAdd, Nat.reduceLeDiff, Nat.reduceEqDiff, Nat.reduceBEq, List.set_cons_zero, List.set_cons_succ, Nat.reduceLT, Bool.not_true, Bool.not_false, Bool.or_false, Bool.false_or, Bool.and_true, Bool.true_and, beq_self_eq_true, eq_self, ↓ev_seqK, seqK_nx, seqK_rt, seqK_bk, seqK_ct, seqK_ex, tr_bl, Rt_ok, isT_tup, valOf_ex, argsOf_ex, tstOf_ex, flOf_ex, itsOf_ex, pT0, pT1, Int.reduceEq, Int.reduceLT, Int.reduceLE, l6, six, h2, notin_ints, hin] <;> rfl, B2, A, .sh (.int j), .sh (.int b), rfl, d2.ok, nd, hA, by omega, fun d q => nomatch q⟩
      · refine ⟨_, by simp only [ev, ↓Res.bind_hide, Res.bindC_ok, Res.bindC_ex, flOf_fl, tstOf_bl, argsOf_args, valOf_val, itsOf_its, List.getElem?_cons_zero, List.getElem?_cons_succ, look_nil, look_vl, look_nm, hand_nil, hand_vl, hand_nm, handM_sh, handM_ow, once_nil, once_vl, once_nm, onceM_sh, onceM_ow, isNm, List.any_nil, List.any_cons, back_nil, back_vl, back_nm, backM_sh, backM_ow, vals_nil, vals_vl, d_sh, d_ow, down_sh, down_ow, Option.bind_some, Option.map_some, pIx_0, pIx_4, ixN_4, cop_eq, cop_ne, cop_gt, cop_lt, cop_le, cop_ge, ofO_some, bop_add, bop_sub, uop_sub, pow18, blt_int, blt_len, blt_abs, blt_list, blt_isi, decide_eq_true_eq, ↓reduceIte, decide_false, decide_true, Bool.false_eq_true, List.length_cons, List.length_nil, Nat.zero_add, Nat.reduceAdd, Nat.reduceLeDiff, Nat.reduceEqDiff, Nat.reduceBEq, List.set_cons_zero, List.set_cons_succ, Nat.reduceLT, Bool.not_true, Bool.not_false, Bool.or_false, Bool.false_or, Bool.and_true, Bool.true_and, beq_self_eq_true, eq_self, ↓ev_seqK, seqK_nx, seqK_rt, seqK_bk, seqK_ct, seqK_ex, tr_bl, Rt_ok, isT_tup, valOf_ex, argsOf_ex, tstOf_ex, flOf_ex, itsOf_ex, pT0, pT1, Int.reduceEq, Int.reduceLT, Int.reduceLE, l6, six, h2, notin_ints, hin, hlz] <;> rfl, B2, A ++ [b], .sh (.int j), .sh (.int b), ?_, d2.ok, ?_, fun x hx => ?_, by rw [List.length_append]; exact Nat.add_le_add_right hl 1, fun d q => nomatch q⟩
        · show _ = [B2.sl, .sh (.int kI), y2, y3, y4, y5, .ow (.lst ((A ++ [b]).map .int)), .sh (.int j), .sh (.int b), y9, y10, y11]
          rw [List.map_append]
          rfl
        · rw [List.nodup_append]
          exact ⟨nd, by simp, fun x hx y hy => by
            rw [List.mem_singleton] at hy
            subst hy
            exact fun q => hin (q ▸ hx)⟩
        · rcases List.mem_append.mp hx with hx | hx
          · exact hA x hx
          · rw [List.mem_singleton] at hx
            subst hx
            exact ⟨b0, b1⟩) ⟨B1, [], y7, y8, rfl, ok1, List.nodup_nil, nofun, Nat.le_refl 0, h8⟩
  obtain ⟨e', k1, B2, A, z7, z8, rfl, ok2, nd, hA, hl, n8⟩ := key
  refine ⟨B2, A, z7, z8, ?_, ok2, nd, hA, by omega, n8⟩
  unfold Fn.law_demand.f1
  rw [ev_forS hit]
  exact k1
/-- the sets of the list that have the letter -/
def selB (A : List Int) (j : Nat) : List Int := A.filter fun b => bit b j
def bitG (j : Nat) : D → Option D
  | .int b => if bit b j = true then some (.int b) else none
  | _ => none
theorem bitG_int {j : Nat} {b : Int} : bitG j (.int b) = if bit b j = true then some (.int b) else none := rfl
theorem fm_bit {j : Nat} : ∀ A : List Int, (A.map D.int).filterMap (bitG j) = (selB A j).map D.int
  | [] => rfl
  | b :: A => by
    have ih := fm_bit (j := j) A
    unfold selB at ih ⊢
    cases h : bit b j with
    | true => rw [List.map_cons, List.filterMap_cons_some (show bitG j (.int b) = some (.int b) by rw [bitG_int, if_pos h]), List.filter_cons, if_pos h, List.map_cons, ih]
    | false => rw [List.map_cons, List.filterMap_cons_none (show bitG j (.int b) = none by rw [bitG_int, h]; rfl), List.filter_cons, if_neg (by rw [h]; decide), ih]
theorem dem_c0 [LimOk G] {C : Nat → List Sl → Res (Sl × List Sl)} {A : List Int} {j : Nat} (hj : j < 5) (hA : A.length ≤ 4) {b0 y1 y2 y3 y4 y5 y7 y8 y9 y10 : Sl} (h8 : ∀ d, y8 ≠ .ow d) :
    ev G C Fn.law_demand.c0 [b0, y1, y2, y3, y4, y5, .ow (iL A), y7, y8, y9, y10, .sh (.int j)] = .ok (.val (.ow (iL (selB A j))), [b0, y1, y2, y3, y4, y5, .ow (iL A), y7, y8, y9, y10, .sh (.int j)]) := by
  have l5 : 5 ≤ sizeLine := sz (by decide)
  have hlim : 100000 ≤ G.lim := LimOk.e
  have q := ev_lcO1 (G := G) (call := C) (i := 8) (j := 6) (ifs := (.ifC (.tcp .Eq (.consE (.bop .Mod (.consE (.bop .FloorDiv (.consE (.blt .int_ (.argN 8 .nilE)) (.consE (.ixe (.consE (.lstE (.consE (.cI 1) (.consE (.cI 2) (.consE (.cI 4) (.consE (.cI 8) (.consE (.cI 16) .nilE)))))) (.argN 11 .nilE))) .nilE))) (.consE (.cI 2) .nilE))) (.consE (.cI 1) .nilE))))) (x := .var 8)
    (e := [b0, y1, y2, y3, y4, y5, .ow (iL A), y7, y8, y9, y10, .sh (.int j)]) (s0 := y8) (g := bitG j) (ds := A.map D.int) rfl h8 rfl (by decide) (by rw [List.length_map]; exact sz' (by omega)) (by rw [List.length_map]; omega) (fun d hd => by
      obtain ⟨b, _, rfl⟩ := List.mem_map.mp hd
      have hx := pw_ixL j hj
      have hdv := pw_div (b := b) j hj
      refine ⟨bit b j, ?_, fun h => by rw [bitG_int, h]; rfl, fun h => ⟨.sh (.int b), .int b, rfl, rfl, by rw [bitG_int, if_pos h]⟩⟩
      show ev G C _ [b0, y1, y2, y3, y4, y5, .ow (iL A), y7, .sh (.int b), y9, y10, .sh (.int j)] = _
      simp only [ev, ↓Res.bind_hide, Res.bindC_ok, Res.bindC_ex, flOf_fl, tstOf_bl, argsOf_args, valOf_val, itsOf_its, List.getElem?_cons_zero, List.getElem?_cons_succ, look_nil, look_vl, look_nm, hand_nil, hand_vl, hand_nm, handM_sh, handM_ow, once_nil, once_vl, once_nm, onceM_sh, onceM_ow, isNm, List.any_nil, List.any_cons, back_nil, back_vl, back_nm, backM_sh, backM_ow, vals_nil, vals_vl, d_sh, d_ow, down_sh, down_ow, Option.bind_some, Option.map_some, pIx_0, pIx_4, ixN_4, cop_eq, cop_ne, cop_gt, cop_lt, cop_le, cop_ge, ofO_some, bop_add, bop_sub, uop_sub, pow18, blt_int, blt_len, blt_abs, blt_list, blt_isi, decide_eq_true_eq, ↓reduceIte, decide_false, decide_true, Bool.false_eq_true, List.length_cons, List.length_nil, Nat.zero_add, Nat.reduceAdd, Nat.reduceLeDiff, Nat.reduceEqDiff, Nat.reduceBEq, List.set_cons_zero, List.set_cons_succ, Nat.reduceLT, Bool.not_true, Bool.not_false, Bool.or_false, Bool.false_or, Bool.and_true, Bool.true_and, beq_self_eq_true, eq_self, ↓ev_seqK, seqK_nx, seqK_rt, seqK_bk, seqK_ct, seqK_ex, tr_bl, Rt_ok, isT_tup, valOf_ex, argsOf_ex, tstOf_ex, flOf_ex, itsOf_ex, pT0, pT1, Int.reduceEq, Int.reduceLT, Int.reduceLE, l5, hx, hdv, mod2] <;> rfl)
  rw [fm_bit] at q
  exact q
/-- the nexts, letter by letter -/
theorem dem_f0 [LimOk G] {k : Nat} (hk : k < 6) {m : Int} (m0 : 0 < m) (m1 : m ≤ 1000) {B : Box} (hB : B.Ok) {A : List Int} (hA : A.length ≤ 4) {y2 y4 y5 y7 y8 y9 y11 : Sl} (h8 : ∀ d, y8 ≠ .ow d) :
    ∃ B' F z9 z11, ev G (C2 G fs n) Fn.law_demand.f0 [B.sl, .sh (.int k), y2, .sh (.int m), y4, y5, .ow (iL A), y7, y8, y9, .ow (.lst []), y11] = .ok (.fl .nx, [Box.sl B', .sh (.int k), y2, .sh (.int m), y4, y5, .ow (iL A), y7, y8, z9, .ow (iL F), z11]) ∧
      B'.Ok ∧ F.length = k ∧ (∀ i ∈ F, -1 ≤ i ∧ i < m) ∧ ∀ (j : Nat) (i : Int), F[j]? = some i → i < 0 → selB A j = [] := by
  obtain ⟨kI, hkI⟩ : ∃ kI : Int, kI = (k : Int) := ⟨_, rfl⟩
  rw [← hkI]
  have key := forL_nat (step := fSt G (C2 G fs n) (.tN 11) (.seq (.asg (.tN 9) (.blt .len (.consE Fn.law_demand.c0 .nilE))) (.seq (.ifS (.tand (.tcp .Eq (.argN 9 (.consE (.cI 0) .nilE))) (.tcp .Gt (.consE (.call 1 (.argN 0 (.consE (.cI 3) .nilE))) (.consE (.cI 0) .nilE)))) (.seq (.app 10 (.uop .USub (.consE (.cI 1) .nilE))) .skip) (.seq (.app 10 (.call 1 (.argN 0 (.argN 3 .nilE)))) .skip)) .skip)))
    (P := fun j e => ∃ B F z9 z11, e = [Box.sl B, .sh (.int kI), y2, .sh (.int m), y4, y5, .ow (iL A), y7, y8, z9, .ow (iL F), z11] ∧ B.Ok ∧ F.length = j ∧ (∀ i ∈ F, -1 ≤ i ∧ i < m) ∧ ∀ (j : Nat) (i : Int), F[j]? = some i → i < 0 → selB A j = []) (N := k) (ds := rngL 0 k) (by rw [len_rngL, Int.toNat_natCast])
    (e := [B.sl, .sh (.int kI), y2, .sh (.int m), y4, y5, .ow (iL A), y7, y8, y9, .ow (.lst []), y11]) (fun j d e hd ⟨B, F, z9, z11, he, hB, hl, hF, hN⟩ => by
      subst he
      obtain ⟨hj, rfl⟩ := rng_get hd
      have hc := dem_c0 (G := G) (C := C2 G fs n) (A := A) (j := j) (by omega) hA (b0 := B.sl) (y1 := .sh (.int kI)) (y2 := y2) (y3 := .sh (.int m)) (y4 := y4) (y5 := y5) (y7 := y7) (y8 := y8) (y9 := z9) (y10 := .ow (iL F)) h8
      obtain ⟨L, hL⟩ : ∃ L : Int, L = (((selB A j).map D.int).length : Int) := ⟨_, rfl⟩
      have hlen : pBlt .len [.lst ((selB A j).map D.int)] = some (.sh (.int L)) := by rw [hL]; rfl
      have hlz : (F.map D.int).length < sizeLine := by rw [List.length_map]; exact sz' (by omega)
      have grow : ∀ i : Int, (-1 ≤ i ∧ i < m) → (i < 0 → selB A j = []) → (∀ x ∈ F ++ [i], -1 ≤ x ∧ x < m) ∧ ∀ (j : Nat) (x : Int), (F ++ [i])[j]? = some x → x < 0 → selB A j = [] := fun i hi hs => by
        refine ⟨fun x hx => ?_, fun q x hx x0 => ?_⟩
        · rcases List.mem_append.mp hx with hx | hx
          · exact hF x hx
          · rw [List.mem_singleton] at hx
            exact hx ▸ hi
        · rcases Nat.lt_trichotomy q F.length with h | h | h
          · rw [List.getElem?_append_left h] at hx
            exact hN q x hx x0
          · subst h
            rw [List.getElem?_append_right (Nat.le_refl _), Nat.sub_self] at hx
            cases hx
            rw [hl]
            exact hs x0
          · rw [List.getElem?_eq_none (by rw [List.length_append]; exact h)] at hx
            cases hx
      show ∃ e', ev G (C2 G fs n) _ [B.sl, .sh (.int kI), y2, .sh (.int m), y4, y5, .ow (iL A), y7, y8, z9, .ow (iL F), .sh (.int j)] = _ ∧ _
      have fin : ∀ i : Int, Sl.ow (.lst (F.map D.int ++ [.int i])) = .ow (iL (F ++ [i])) := fun i => by
        show _ = Sl.ow (.lst ((F ++ [i]).map D.int))
        rw [List.map_append]; rfl
      by_cases hL0 : L = 0
      · have hs : selB A j = [] := by
          rw [hL0, List.length_map] at hL
          exact List.eq_nil_of_length_eq_zero (by omega)
        obtain ⟨r, B2, h2, d2⟩ := run_take (G := G) (fs := fs) (n := n + 1) hT.e (m := 3) hB (by decide) (by decide)
        by_cases hr : 0 < r
        · have g := grow (-1) ⟨by decide, by omega⟩ fun _ => hs
          exact ⟨_, by simp only [ev, ↓Res.bind_hide, Res.bindC_ok, Res.bindC_ex, flOf_fl, tstOf_bl, argsOf_args, valOf_val, itsOf_its, List.getElem?_cons_zero, List.getElem?_cons_succ, look_nil, look_vl, look_nm, hand_nil, hand_vl, hand_nm, handM_sh, handM_ow, once_nil, once_vl, once_nm, onceM_sh, onceM_ow, isNm, List.any_nil, List.any_cons, back_nil, back_vl, back_nm, backM_sh, backM_ow, vals_nil, vals_vl, d_sh, d_ow, down_sh, down_ow, Option.bind_some, Option.map_some, pIx_0, pIx_4, ixN_4, cop_eq, cop_ne, cop_gt, cop_lt, cop_le, cop_ge, ofO_some, bop_add, bop_sub, uop_sub, pow18, blt_int, blt_len, blt_abs, blt_list, blt_isi, decide_eq_true_eq, ↓reduceIte, decide_false, decide_true, Bool.false_eq_true, List.length_cons, List.length_nil, Nat.zero_add, Nat.reduceAdd, Nat.reduceLeDiff, Nat.reduceEqDiff, Nat.reduceBEq, List.set_cons_zero, List.set_cons_succ, Nat.reduceLT, Bool.not_true, Bool.not_false, Bool.or_false, Bool.false_or, Bool.and_true, Bool.true_and, beq_self_eq_true, eq_self, ↓ev_seqK, seqK_nx, seqK_rt, seqK_bk, seqK_ct, seqK_ex, tr_bl, Rt_ok, isT_tup, valOf_ex, argsOf_ex, tstOf_ex, flOf_ex, itsOf_ex, pT0, pT1, Int.reduceEq, Int.reduceLT, Int.reduceLE, hc, hlen, hL0, h2, hr, hlz] <;> rfl, B2, F ++ [-1], .sh (.int 0), .sh (.int j), by rw [← fin], d2.ok, by rw [List.length_append, hl]; rfl, g.1, g.2⟩
        · obtain ⟨i, B3, h3, d3⟩ := run_take (G := G) (fs := fs) (n := n + 1) hT.e (m := m) d2.ok m0 (by omega)
          have g := grow i ⟨by have := d3.r0; omega, d3.rm⟩ fun _ => hs
          exact ⟨_, by simp only [ev, ↓Res.bind_hide, Res.bindC_ok, Res.bindC_ex, flOf_fl, tstOf_bl, argsOf_args, valOf_val, itsOf_its, List.getElem?_cons_zero, List.getElem?_cons_succ, look_nil, look_vl, look_nm, hand_nil, hand_vl, hand_nm, handM_sh, handM_ow, once_nil, once_vl, once_nm, onceM_sh, onceM_ow, isNm, List.any_nil, List.any_cons, back_nil, back_vl, back_nm, backM_sh, backM_ow, vals_nil, vals_vl, d_sh, d_ow, down_sh, down_ow, Option.bind_some, Option.map_some, pIx_0, pIx_4, ixN_4, cop_eq, cop_ne, cop_gt, cop_lt, cop_le, cop_ge, ofO_some, bop_add, bop_sub, uop_sub, pow18, blt_int, blt_len, blt_abs, blt_list, blt_isi, decide_eq_true_eq, ↓reduceIte, decide_false, decide_true, Bool.false_eq_true, List.length_cons, List.length_nil, Nat.zero_add, Nat.reduceAdd, Nat.reduceLeDiff, Nat.reduceEqDiff, Nat.reduceBEq, List.set_cons_zero, List.set_cons_succ, Nat.reduceLT, Bool.not_true, Bool.not_false, Bool.or_false, Bool.false_or, Bool.and_true, Bool.true_and, beq_self_eq_true, eq_self, ↓ev_seqK, seqK_nx, seqK_rt, seqK_bk, seqK_ct, seqK_ex, tr_bl, Rt_ok, isT_tup, valOf_ex, argsOf_ex, tstOf_ex, flOf_ex, itsOf_ex, pT0, pT1, Int.reduceEq, Int.reduceLT, Int.reduceLE, hc, hlen, hL0, h2, hr, h3, hlz] <;> rfl, B3, F ++ [i], .sh (.int 0), .sh (.int j), by rw [← fin], d3.ok, by rw [List.length_append, hl]; rfl, g.1, g.2⟩
      · obtain ⟨i, B3, h3, d3⟩ := run_take (G := G) (fs := fs) (n := n + 1) hT.e (m := m) hB m0 (by omega)
        have g := grow i ⟨by have := d3.r0; omega, d3.rm⟩ fun q => absurd q (by have := d3.r0; omega)
        exact ⟨_, by simp only [ev, ↓Res.bind_hide, Res.bindC_ok, Res.bindC_ex, flOf_fl, tstOf_bl, argsOf_args, valOf_val, itsOf_its, List.getElem?_cons_zero, List.getElem?_cons_succ, look_nil, look_vl, look_nm, hand_nil, hand_vl, hand_nm, handM_sh, handM_ow, once_nil, once_vl, once_nm, onceM_sh, onceM_ow, isNm, List.any_nil, List.any_cons, back_nil, back_vl, back_nm, backM_sh, backM_ow, vals_nil, vals_vl, d_sh, d_ow, down_sh, down_ow, Option.bind_some, Option.map_some, pIx_0, pIx_4, ixN_4, cop_eq, cop_ne, cop_gt, cop_lt, cop_le, cop_ge, ofO_some, bop_add, bop_sub, uop_sub, pow18, blt_int, blt_len, blt_abs, blt_list, blt_isi, decide_eq_true_eq, ↓reduceIte, decide_false, decide_true, Bool.false_eq_true, List.length_cons, List.length_nil, Nat.zero_add, Nat.reduceAdd, Nat.reduceLeDiff, Nat.reduceEqDiff, Nat.reduceBEq, List.set_cons_zero, List.set_cons_succ, Nat.reduceLT, Bool.not_true, Bool.not_false, Bool.or_false, Bool.false_or, Bool.and_true, Bool.true_and, beq_self_eq_true, eq_self, ↓ev_seqK, seqK_nx, seqK_rt, seqK_bk, seqK_ct, seqK_ex, tr_bl, Rt_ok, isT_tup, valOf_ex, argsOf_ex, tstOf_ex, flOf_ex, itsOf_ex, pT0, pT1, Int.reduceEq, Int.reduceLT, Int.reduceLE, hc, hlen, hL0, h3, hlz] <;> rfl, B3, F ++ [i], .sh (.int L), .sh (.int j), by rw [← fin], d3.ok, by rw [List.length_append, hl]; rfl, g.1, g.2⟩) ⟨B, [], y9, y11, rfl, hB, rfl, nofun, fun j i h => by simp at h⟩
  obtain ⟨e', k1, B2, F, z9, z11, rfl, ok2, hl, hF, hN⟩ := key
  refine ⟨B2, F, z9, z11, ?_, ok2, hl, hF, hN⟩
  unfold Fn.law_demand.f0
  rw [ev_forS (itR_arg (i := 1) rfl (inI' (by omega) (by omega))), hkI]
  rw [hkI] at k1
  exact k1
/-! a drawn state is a state -/
theorem letOk_draw {k : Nat} {A F : List Int} (hF : F.length = k) (hN : ∀ (j : Nat) (i : Int), F[j]? = some i → i < 0 → selB A j = []) {b : Int} (hb : b ∈ A) : letOk k b (F.map .int) = true := by
  unfold letOk
  rw [List.all_eq_true]
  intro d hd
  obtain ⟨j, hj, rfl⟩ := mem_rngL hd
  show (!(bit b j && decide (intD ((F.map D.int).getD j .non) < 0))) = true
  have hx : F[j]? = some F[j] := List.getElem?_eq_getElem (by omega)
  have hg : (F.map D.int).getD j .non = .int F[j] := by rw [List.getD_eq_getElem?_getD, List.getElem?_map, hx]; rfl
  rw [hg]
  show (!(bit b j && decide (F[j] < 0))) = true
  by_cases h0 : F[j] < 0
  · have hs := hN j _ hx h0
    cases hbit : bit b j with
    | false => rfl
    | true =>
      have : b ∈ selB A j := List.mem_filter.mpr ⟨hb, hbit⟩
      rw [hs] at this
      cases this
  · rw [decide_eq_false h0, Bool.and_false]; rfl
theorem accOk_draw {k : Nat} {A F : List Int} (hF : F.length = k) (hN : ∀ (j : Nat) (i : Int), F[j]? = some i → i < 0 → selB A j = []) : ∀ (S : List Int) (b0 : Int), S.Pairwise (· < ·) → (∀ b ∈ S, b0 < b) → (∀ b ∈ S, b ∈ A ∧ 0 ≤ b ∧ b < 2 ^ k) → accOk k (F.map .int) b0 (S.map .int) = true
  | [], _, _, _, _ => rfl
  | b :: S, b0, hp, h0, h => by
    rw [List.pairwise_cons] at hp
    obtain ⟨hbA, hb0, hb1⟩ := h b List.mem_cons_self
    show (wi (.int b) 0 (2 ^ k - 1) && !decide (b ≤ b0) && letOk k b (F.map .int) && accOk k (F.map .int) b (S.map .int)) = true
    rw [letOk_draw hF hN hbA, accOk_draw hF hN S b hp.2 (fun x hx => hp.1 x hx) fun x hx => h x (List.mem_cons_of_mem _ hx), decide_eq_false (by have := h0 b List.mem_cons_self; omega)]
    show (decide (0 ≤ b) && decide (b ≤ 2 ^ k - 1) && _ && _ && _) = true
    rw [decide_eq_true hb0, decide_eq_true (by omega)]
    rfl
def encSt (A F : List Int) : D := .tup [.tup ((isort A).map .int), .tup (F.map .int)]
theorem stOk_draw {k : Nat} {m : Int} {A F : List Int} (hF : F.length = k) (nd : A.Nodup) (hA : ∀ b ∈ A, 0 ≤ b ∧ b < 2 ^ k) (hFm : ∀ i ∈ F, -1 ≤ i ∧ i < m) (hN : ∀ (j : Nat) (i : Int), F[j]? = some i → i < 0 → selB A j = []) : stOkD k m (encSt A F) = true := by
  show (decide ((F.map D.int).length = k) && folOk m (F.map .int) && accOk k (F.map .int) (-1) ((isort A).map .int)) = true
  rw [decide_eq_true (by rw [List.length_map]; exact hF), accOk_draw hF hN (isort A) (-1) (isort_lt nd) (fun b hb => by have := (hA b (mem_isort.mp hb)).1; omega) fun b hb => ⟨mem_isort.mp hb, hA b (mem_isort.mp hb)⟩]
  have hf : folOk m (F.map .int) = true := by
    unfold folOk
    rw [List.all_map, List.all_eq_true]
    intro i hi
    obtain ⟨i0, i1⟩ := hFm i hi
    show (decide (-1 ≤ i) && decide (i ≤ m - 1)) = true
    rw [decide_eq_true i0, decide_eq_true (by omega)]
    rfl
  rw [hf]
  rfl
variable [LimOk G] [Has fs 3 Fn.law_demand]
/-- all states -/
theorem dem_f2 {k : Nat} (hk : k < 6) {M : Nat} (m0 : 0 < M) (m1 : M ≤ 1000) {B : Box} (hB : B.Ok) {y2 : Sl} :
    ∃ B' ss z5 z6 z7 z8 z9 z10 z11, ev G (C2 G fs n) Fn.law_demand.f2 [B.sl, .sh (.int k), y2, .sh (.int M), .ow (.lst []), .un, .un, .un, .un, .un, .un, .un] = .ok (.fl .nx, [Box.sl B', .sh (.int k), y2, .sh (.int M), .ow (.lst ss), z5, z6, z7, z8, z9, z10, z11]) ∧
      B'.Ok ∧ ss.length = M ∧ ss.all (stOkD k M) = true := by
  obtain ⟨kI, hkI⟩ : ∃ kI : Int, kI = (k : Int) := ⟨_, rfl⟩
  obtain ⟨mI, hmI⟩ : ∃ mI : Int, mI = (M : Int) := ⟨_, rfl⟩
  rw [← hkI, ← hmI]
  have l0 : 0 ≤ sizeLine := sz (by decide)
  have l2 : 2 ≤ sizeLine := sz (by decide)
  have key := forL_nat (step := fSt G (C2 G fs n) (.tN 5) (.seq (.asg (.tN 6) (.lstE .nilE)) (.seq Fn.law_demand.f1 (.seq (.asg (.tN 9) (.cI 0)) (.seq (.asg (.tN 10) (.lstE .nilE)) (.seq Fn.law_demand.f0 (.seq (.app 4 (.tupE (.consE (.blt .tuple_ (.consE (.blt .sorted_ (.argN 6 .nilE)) .nilE)) (.consE (.blt .tuple_ (.argN 10 .nilE)) .nilE)))) .skip)))))))
    (P := fun j e => ∃ B ss z5 z6 z7 z8 z9 z10 z11, e = [Box.sl B, .sh (.int kI), y2, .sh (.int mI), .ow (.lst ss), z5, z6, z7, z8, z9, z10, z11] ∧ (∀ d, z8 ≠ .ow d) ∧ B.Ok ∧ ss.length = j ∧ ss.all (stOkD k mI) = true) (N := M) (ds := rngL 0 M) (by rw [len_rngL, Int.toNat_natCast])
    (e := [B.sl, .sh (.int kI), y2, .sh (.int mI), .ow (.lst []), .un, .un, .un, .un, .un, .un, .un]) (fun j d e hd ⟨B, ss, z5, z6, z7, z8, z9, z10, z11, he, n8, hB, hl, hS⟩ => by
      subst he
      obtain ⟨hj, rfl⟩ := rng_get hd
      show ∃ e', ev G (C2 G fs n) _ [B.sl, .sh (.int kI), y2, .sh (.int mI), .ow (.lst ss), .sh (.int j), z6, z7, z8, z9, z10, z11] = _ ∧ _
      obtain ⟨B2, A, w7, w8, h1, ok1, nd, hA, hAl, nw8⟩ := dem_f1 (G := G) (fs := fs) (n := n) hk hB (y2 := y2) (y3 := .sh (.int mI)) (y4 := .ow (.lst ss)) (y5 := .sh (.int j)) (y7 := z7) (y8 := z8) (y9 := z9) (y10 := z10) (y11 := z11) n8
      obtain ⟨B3, F, w9, w11, h2, ok2, hF, hFm, hN⟩ := dem_f0 (G := G) (fs := fs) (n := n) hk (m := mI) (by omega) (by omega) ok1 hAl (y2 := y2) (y4 := .ow (.lst ss)) (y5 := .sh (.int j)) (y7 := w7) (y8 := w8) (y9 := .sh (.int 0)) (y11 := z11) nw8
      rw [← hkI] at h1 h2
      have hs := sorted_ints (ns := A) (by omega)
      have hlz : ss.length < sizeLine := sz' (by omega)
      have hst := stOk_draw (m := mI) hF nd hA hFm hN
      refine ⟨_, by simp only [ev, ↓Res.bind_hide, Res.bindC_ok, Res.bindC_ex, flOf_fl, tstOf_bl, argsOf_args, valOf_val, itsOf_its, List.getElem?_cons_zero, List.getElem?_cons_succ, look_nil, look_vl, look_nm, hand_nil, hand_vl, hand_nm, handM_sh, handM_ow, once_nil, once_vl, once_nm, onceM_sh, onceM_ow, isNm, List.any_nil, List.any_cons, back_nil, back_vl, back_nm, backM_sh, backM_ow, vals_nil, vals_vl, d_sh, d_ow, down_sh, down_ow, Option.bind_some, Option.map_some, pIx_0, pIx_4, ixN_4, cop_eq, cop_ne, cop_gt, cop_lt, cop_le, cop_ge, ofO_some, bop_add, bop_sub, uop_sub, pow18, blt_int, blt_len, blt_abs, blt_list, blt_isi, decide_eq_true_eq, ↓reduceIte, decide_false, decide_true, Bool.false_eq_true, List.length_cons, List.length_nil, Nat.zero_add, Nat.reduceAdd, Nat.reduceLeDiff, Nat.reduceEqDiff, Nat.reduceBEq, List.set_cons_zero, List.set_cons_succ, Nat.reduceLT, Bool.not_true, Bool.not_false, Bool.or_false, Bool.false_or, Bool.and_true, Bool.true_and, beq_self_eq_true, eq_self, ↓ev_seqK, seqK_nx, seqK_rt, seqK_bk, seqK_ct, seqK_ex, tr_bl, Rt_ok, isT_tup, valOf_ex, argsOf_ex, tstOf_ex, flOf_ex, itsOf_ex, pT0, pT1, Int.reduceEq, Int.reduceLT, Int.reduceLE, l0, l2, h1, h2, hs, blt_tupL, hlz] <;> rfl, B3, ss ++ [encSt A F], .sh (.int j), .ow (iL A), w7, w8, w9, .ow (iL F), w11, rfl, nw8, ok2, by rw [List.length_append, hl]; rfl, by rw [List.all_append, hS, Bool.true_and, List.all_cons, hst]; rfl⟩) ⟨B, [], .un, .un, .un, .un, .un, .un, .un, rfl, nofun, hB, rfl, rfl⟩
  obtain ⟨e', k1, B2, ss, z5, z6, z7, z8, z9, z10, z11, rfl, _, ok2, hl, hS⟩ := key
  refine ⟨B2, ss, z5, z6, z7, z8, z9, z10, z11, ?_, ok2, hl, hS⟩
  unfold Fn.law_demand.f2
  rw [ev_forS (itR_arg (i := 3) rfl (inI' (by omega) (by omega))), hmI]
  rw [hmI] at k1
  exact k1
/-- a demand that is drawn -/
theorem run_law_demand {k : Nat} (hk : k < 6) {most : Int} (m0 : 0 < most) (m1 : most ≤ 40) {B : Box} (hB : B.Ok) :
    ∃ ss B', run G fs (n + 1 + 1 + 1) 3 [B.sl, .sh (.int k), .sh (.int most)] = .ok (.sh (.tup [.int k, .tup ss]), [Box.sl B', .sh (.int k), .sh (.int most)]) ∧ isDemD (.tup [.int k, .tup ss]) = true ∧ B'.Ok := by
  obtain ⟨r, B1, h1, d1⟩ := run_take (G := G) (fs := fs) (n := n + 1) hT.e (m := most) hB m0 (by omega)
  obtain ⟨M, hM⟩ := Int.eq_ofNat_of_zero_le (show 0 ≤ 1 + r by have := d1.r0; omega)
  have hr := d1.rm
  have hr0 := d1.r0
  obtain ⟨B2, ss, z5, z6, z7, z8, z9, z10, z11, h2, ok2, hl, hS⟩ := dem_f2 (G := G) (fs := fs) (n := n) hk (M := M) (by omega) (by omega) d1.ok (y2 := .sh (.int most))
  refine ⟨ss, B2, ?_, ?_, ok2⟩
  · refine run_rt (F := Fn.law_demand) (e := [B2.sl, .sh (.int k), .sh (.int most), .sh (.int M), .ow (.lst ss), z5, z6, z7, z8, z9, z10, z11]) rfl ?_ rfl
    show ev G (C2 G fs n) Fn.law_demand.b [B.sl, .sh (.int k), .sh (.int most), .un, .un, .un, .un, .un, .un, .un, .un, .un] = _
    obtain ⟨kI, hkI⟩ : ∃ kI : Int, kI = (k : Int) := ⟨_, rfl⟩
    obtain ⟨mI, hmI⟩ : ∃ mI : Int, mI = (M : Int) := ⟨_, rfl⟩
    rw [← hkI, ← hmI] at h2 ⊢
    have hsum : 1 + r = mI := by rw [hmI]; exact hM
    have l0 : 0 ≤ sizeLine := sz (by decide)
    have l2 : 2 ≤ sizeLine := sz (by decide)
    unfold Fn.law_demand.b Fn.law_demand.s0 Fn.law_demand.s1 Fn.law_demand.s2 Fn.law_demand.s3
    simp only [ev, ↓Res.bind_hide, Res.bindC_ok, Res.bindC_ex, flOf_fl, tstOf_bl, argsOf_args, valOf_val, itsOf_its, List.getElem?_cons_zero, List.getElem?_cons_succ, look_nil, look_vl, look_nm, hand_nil, hand_vl, hand_nm, handM_sh, handM_ow, once_nil, once_vl, once_nm, onceM_sh, onceM_ow, isNm, List.any_nil, List.any_cons, back_nil, back_vl, back_nm, backM_sh, backM_ow, vals_nil, vals_vl, d_sh, d_ow, down_sh, down_ow, Option.bind_some, Option.map_some, pIx_0, pIx_4, ixN_4, cop_eq, cop_ne, cop_gt, cop_lt, cop_le, cop_ge, ofO_some, bop_add, bop_sub, uop_sub, pow18, blt_int, blt_len, blt_abs, blt_list, blt_isi, decide_eq_true_eq, ↓reduceIte, decide_false, decide_true, Bool.false_eq_true, List.length_cons, List.length_nil, Nat.zero_add, Nat.reduceAdd, Nat.reduceLeDiff, Nat.reduceEqDiff, Nat.reduceBEq, List.set_cons_zero, List.set_cons_succ, Nat.reduceLT, Bool.not_true, Bool.not_false, Bool.or_false, Bool.false_or, Bool.and_true, Bool.true_and, beq_self_eq_true, eq_self, ↓ev_seqK, seqK_nx, seqK_rt, seqK_bk, seqK_ct, seqK_ex, tr_bl, Rt_ok, isT_tup, valOf_ex, argsOf_ex, tstOf_ex, flOf_ex, itsOf_ex, pT0, pT1, Int.reduceEq, Int.reduceLT, Int.reduceLE, h1, hsum, l0, l2, h2, blt_tupL]
  · show (wi (.int k) 0 5 && (decide (1 ≤ ss.length) && decide (ss.length ≤ 40) && ss.all (stOkD (intD (.int k)).toNat ss.length))) = true
    have w : wi (.int k) 0 5 = true := by
      show (decide (0 ≤ (k : Int)) && decide ((k : Int) ≤ 5)) = true
      rw [decide_eq_true (by omega), decide_eq_true (by omega)]; rfl
    have ek : (intD (.int k)).toNat = k := Int.toNat_natCast k
    rw [w, ek, decide_eq_true (by omega), decide_eq_true (by omega), hl, hS]
    rfl
end
end RF


/-! LP: systems and paths -/
namespace RF
open PySem PySem.Spec PyProof.Rows L2
/-- is_rising -/
def Fn.is_rising.s0 : I := (.ifS (.tnot (.tv (.blt .isinstance (.argN 0 (.consE (.bty "tuple") .nilE)))))
  (.seq (.ret (.cB false))
  .skip)
  .skip)
def Fn.is_rising.s1 : I := (.asg (.tN 2) (.uop .USub (.consE (.cI 1) .nilE)))
def Fn.is_rising.f0 : I := (.forO 0 (.tN 3)
  (.seq (.ifS (.tnot (.tv (.call 5 (.argN 3 (.consE (.bop .Add (.argN 2 (.consE (.cI 1) .nilE))) (.consE (.bop .Sub (.argN 1 (.consE (.cI 1) .nilE))) .nilE))))))
  (.seq (.ret (.cB false))
  .skip)
  .skip)
  (.seq (.asg (.tN 2) (.var 3))
  .skip)))
def Fn.is_rising.s2 : I := Fn.is_rising.f0
def Fn.is_rising.s3 : I := (.ret (.cB true))
def Fn.is_rising.b : I :=
  (.seq Fn.is_rising.s0 (.seq Fn.is_rising.s1 (.seq Fn.is_rising.s2 (.seq Fn.is_rising.s3 .skip))))
def Fn.is_rising : FDef := ⟨2, 4, [true, true], Fn.is_rising.b⟩
/-- is_system -/
def Fn.is_system.s0 : I := (.ifS (.tor (.tnot (.tv (.blt .isinstance (.argN 0 (.consE (.bty "tuple") .nilE))))) (.tor (.tcp .NotEq (.consE (.blt .len (.argN 0 .nilE)) (.consE (.cI 3) .nilE))) (.tnot (.tv (.call 5 (.consE (.ixe (.argN 0 (.consE (.cI 0) .nilE))) (.consE (.cI 1) (.consE (.glo 5) .nilE))))))))
  (.seq (.ret (.cB false))
  .skip)
  .skip)
def Fn.is_system.s1 : I := (.asg (.tT (.tCons (.tN 1) (.tCons (.tN 2) (.tCons (.tN 3) .tNil)))) (.var 0))
def Fn.is_system.s2 : I := (.ifS (.tor (.tnot (.tv (.blt .isinstance (.argN 3 (.consE (.bty "tuple") .nilE))))) (.tnot (.tch .LtE .LtE (.cI 1) (.blt .len (.argN 3 .nilE)) (.glo 6))))
  (.seq (.ret (.cB false))
  .skip)
  .skip)
def Fn.is_system.s3 : I := (.ifS (.tor (.tnot (.tv (.call 20 (.argN 2 (.consE (.blt .len (.argN 3 .nilE)) .nilE))))) (.tnot (.tn 2)))
  (.seq (.ret (.cB false))
  .skip)
  .skip)
def Fn.is_system.f0 : I := (.forO 3 (.tN 4)
  (.seq (.ifS (.tor (.tnot (.tv (.blt .isinstance (.argN 4 (.consE (.bty "tuple") .nilE))))) (.tor (.tcp .NotEq (.consE (.blt .len (.argN 4 .nilE)) (.consE (.cI 2) .nilE))) (.tnot (.tv (.call 5 (.consE (.ixe (.argN 4 (.consE (.cI 0) .nilE))) (.consE (.cI 0) (.consE (.bop .Sub (.argN 1 (.consE (.cI 1) .nilE))) .nilE))))))))
  (.seq (.ret (.cB false))
  .skip)
  .skip)
  (.seq (.ifS (.tor (.tnot (.tv (.call 20 (.consE (.ixe (.argN 4 (.consE (.cI 1) .nilE))) (.consE (.blt .len (.argN 3 .nilE)) .nilE))))) (.tnot (.tv (.ixe (.argN 4 (.consE (.cI 1) .nilE))))))
  (.seq (.ret (.cB false))
  .skip)
  .skip)
  .skip)))
def Fn.is_system.s4 : I := Fn.is_system.f0
def Fn.is_system.s5 : I := (.ret (.cB true))
def Fn.is_system.b : I :=
  (.seq Fn.is_system.s0 (.seq Fn.is_system.s1 (.seq Fn.is_system.s2 (.seq Fn.is_system.s3 (.seq Fn.is_system.s4 (.seq Fn.is_system.s5 .skip))))))
def Fn.is_system : FDef := ⟨1, 5, [true], Fn.is_system.b⟩
/-- check_system -/
def Fn.check_system.b : I :=
  (.seq (.ifS (.tnot (.tv (.call 21 (.argN 0 .nilE))))
  (.seq (.raiseS "BadSystem")
  .skip)
  .skip)
  .skip)
def Fn.check_system : FDef := ⟨1, 1, [true], Fn.check_system.b⟩
abbrev iT (w : List Int) : D := .tup (w.map .int)
abbrev stD (p : Int × List Int) : D := .tup [.int p.1, iT p.2]
abbrev sysD (c : Int) (a : List Int) (ss : List (Int × List Int)) : D := .tup [.int c, iT a, .tup (ss.map stD)]
/-- rising, not empty, below m -/
structure Ris (m : Int) (a : List Int) : Prop where
  up : a.Pairwise (· < ·)
  ne : a ≠ []
  rg : ∀ x ∈ a, 0 ≤ x ∧ x < m
structure SysOk (c : Int) (a : List Int) (ss : List (Int × List Int)) : Prop where
  c0 : 1 ≤ c
  c1 : c ≤ 4
  s0 : 1 ≤ ss.length
  s1 : ss.length ≤ 8
  st : Ris ss.length a
  nx : ∀ p ∈ ss, (0 ≤ p.1 ∧ p.1 < c) ∧ Ris ss.length p.2
section
variable {G : Sig} {fs : FS} {n : Nat}
variable [Has fs 4 Fn.is_whole] [Has fs 5 Fn.is_within] [Has fs 20 Fn.is_rising]
theorem wi_true {i lo hi : Int} (h0 : lo ≤ i) (h1 : i ≤ hi) : wi (.int i) lo hi = true := by
  show (decide (lo ≤ i) && decide (i ≤ hi)) = true
  rw [decide_eq_true h0, decide_eq_true h1]; rfl
theorem run_within_t {i lo hi : Int} (h0 : lo ≤ i) (h1 : i ≤ hi) : run G fs (n + 1 + 1) 5 [.sh (.int i), .sh (.int lo), .sh (.int hi)] = .ok (.sh (.bl true), [.sh (.int i), .sh (.int lo), .sh (.int hi)]) := by
  have h := run_is_within (G := G) (fs := fs) (n := n) (x := .int i) (m := 0) (lo := lo) (hi := hi) rfl
  rw [wi_true h0 h1] at h
  exact h
theorem rise_f0 {a : List Int} {m : Int} (up : a.Pairwise (· < ·)) (rg : ∀ x ∈ a, 0 ≤ x ∧ x < m) {y3 : Sl} :
    ∃ z2 z3, ev G (C2 G fs n) Fn.is_rising.f0 [.sh (iT a), .sh (.int m), .sh (.int (-1)), y3] = .ok (.fl .nx, [.sh (iT a), .sh (.int m), z2, z3]) := by
  have key := forL_inv (step := fSt G (C2 G fs n) (.tN 3) (.seq (.ifS (.tnot (.tv (.call 5 (.argN 3 (.consE (.bop .Add (.argN 2 (.consE (.cI 1) .nilE))) (.consE (.bop .Sub (.argN 1 (.consE (.cI 1) .nilE))) .nilE)))))) (.seq (.ret (.cB false)) .skip) .skip) (.seq (.asg (.tN 2) (.var 3)) .skip)))
    (P := fun ds e => ∃ (b : Int) (z3 : Sl) (r : List Int), e = [.sh (iT a), .sh (.int m), .sh (.int b), z3] ∧ ds = r.map D.int ∧ r.Pairwise (· < ·) ∧ (∀ x ∈ r, b < x ∧ x < m)) (ds := a.map D.int) (e := [.sh (iT a), .sh (.int m), .sh (.int (-1)), y3]) (fun d r e ⟨b, z3, l, he, hl, hp, hr⟩ => by
      subst he
      cases l with
      | nil => cases hl
      | cons x l =>
        cases hl
        obtain ⟨hx, hxm⟩ := hr x List.mem_cons_self
        rw [List.pairwise_cons] at hp
        have hw := run_within_t (G := G) (fs := fs) (n := n) (i := x) (lo := b + 1) (hi := m - 1) (by omega) (by omega)
        refine ⟨_, ?_, x, .sh (.int x), l, rfl, rfl, hp.2, fun y hy => ⟨hp.1 y hy, (hr y (List.mem_cons_of_mem _ hy)).2⟩⟩
        show ev G (C2 G fs n) _ [.sh (iT a), .sh (.int m), .sh (.int b), .sh (.int x)] = _
        simp only [ev, ↓Res.bind_hide, Res.bindC_ok, Res.bindC_ex, flOf_fl, tstOf_bl, argsOf_args, valOf_val, itsOf_its, List.getElem?_cons_zero, List.getElem?_cons_succ, look_nil, look_vl, look_nm, hand_nil, hand_vl, hand_nm, handM_sh, handM_ow, once_nil, once_vl, once_nm, onceM_sh, onceM_ow, isNm, List.any_nil, List.any_cons, back_nil, back_vl, back_nm, backM_sh, backM_ow, vals_nil, vals_vl, d_sh, d_ow, down_sh, down_ow, Option.bind_some, Option.map_some, pIx_0, pIx_4, ixN_4, cop_eq, cop_ne, cop_gt, cop_lt, cop_le, cop_ge, ofO_some, bop_add, bop_sub, uop_sub, pow18, blt_int, blt_len, blt_abs, blt_list, blt_isi, decide_eq_true_eq, ↓reduceIte, decide_false, decide_true, Bool.false_eq_true, List.length_cons, List.length_nil, Nat.zero_add, Nat.reduceAdd, Nat.reduceLeDiff, Nat.reduceEqDiff, Nat.reduceBEq, List.set_cons_zero, List.set_cons_succ, Nat.reduceLT, Bool.not_true, Bool.not_false, Bool.or_false, Bool.false_or, Bool.and_true, Bool.true_and, beq_self_eq_true, eq_self, ↓ev_seqK, seqK_nx, seqK_rt, seqK_bk, seqK_ct, seqK_ex, tr_bl, Rt_ok, isT_tup, valOf_ex, argsOf_ex, tstOf_ex, flOf_ex, itsOf_ex, pT0, pT1, Int.reduceEq, Int.reduceLT, Int.reduceLE, hw]) ⟨-1, y3, a, rfl, rfl, up, fun x hx => ⟨by have := (rg x hx).1; omega, (rg x hx).2⟩⟩
  obtain ⟨e', h1, b, z3, r, rfl, _⟩ := key
  refine ⟨.sh (.int b), z3, ?_⟩
  unfold Fn.is_rising.f0
  rw [ev_forSh (i := 0) (ds := a.map D.int) rfl rfl]
  exact h1
theorem run_rising {a : List Int} {m : Int} (h : Ris m a) : run G fs (n + 1 + 1 + 1) 20 [.sh (iT a), .sh (.int m)] = .ok (.sh (.bl true), [.sh (iT a), .sh (.int m)]) := by
  refine run_sh (F := Fn.is_rising) rfl rfl ?_
  show Rt (ev G (C2 G fs n) Fn.is_rising.b [.sh (iT a), .sh (.int m), .un, .un]) _
  obtain ⟨z2, z3, hf⟩ := rise_f0 (G := G) (fs := fs) (n := n) h.up h.rg (y3 := .un)
  have it : isiD (iT a) "tuple" = some true := rfl
  unfold Fn.is_rising.b Fn.is_rising.s0 Fn.is_rising.s1 Fn.is_rising.s2 Fn.is_rising.s3
  simp only [ev, ↓Res.bind_hide, Res.bindC_ok, Res.bindC_ex, flOf_fl, tstOf_bl, argsOf_args, valOf_val, itsOf_its, List.getElem?_cons_zero, List.getElem?_cons_succ, look_nil, look_vl, look_nm, hand_nil, hand_vl, hand_nm, handM_sh, handM_ow, once_nil, once_vl, once_nm, onceM_sh, onceM_ow, isNm, List.any_nil, List.any_cons, back_nil, back_vl, back_nm, backM_sh, backM_ow, vals_nil, vals_vl, d_sh, d_ow, down_sh, down_ow, Option.bind_some, Option.map_some, pIx_0, pIx_4, ixN_4, cop_eq, cop_ne, cop_gt, cop_lt, cop_le, cop_ge, ofO_some, bop_add, bop_sub, uop_sub, pow18, blt_int, blt_len, blt_abs, blt_list, blt_isi, decide_eq_true_eq, ↓reduceIte, decide_false, decide_true, Bool.false_eq_true, List.length_cons, List.length_nil, Nat.zero_add, Nat.reduceAdd, Nat.reduceLeDiff, Nat.reduceEqDiff, Nat.reduceBEq, List.set_cons_zero, List.set_cons_succ, Nat.reduceLT, Bool.not_true, Bool.not_false, Bool.or_false, Bool.false_or, Bool.and_true, Bool.true_and, beq_self_eq_true, eq_self, ↓ev_seqK, seqK_nx, seqK_rt, seqK_bk, seqK_ct, seqK_ex, tr_bl, Rt_ok, isT_tup, valOf_ex, argsOf_ex, tstOf_ex, flOf_ex, itsOf_ex, pT0, pT1, Int.reduceEq, Int.reduceLT, Int.reduceLE, hf, it]
/-! systems -/
variable [Has fs 21 Fn.is_system] [Has fs 22 Fn.check_system] [h5 : HasC G 5 (.int 4)] [h6 : HasC G 6 (.int 8)]
theorem isEmpty_map {a : List Int} (h : a ≠ []) : (a.map D.int).isEmpty = false := by cases a <;> first | exact absurd rfl h | rfl
theorem sys_f0 {c : Int} {a : List Int} {ss : List (Int × List Int)} (h : SysOk c a ss) {y0 : Sl} {y4 : Sl} :
    ∃ z, ev G (C3 G fs n) Fn.is_system.f0 [y0, .sh (.int c), .sh (iT a), .sh (.tup (ss.map stD)), y4] = .ok (.fl .nx, [y0, .sh (.int c), .sh (iT a), .sh (.tup (ss.map stD)), z]) := by
  have key := forL_inv (step := fSt G (C3 G fs n) (.tN 4) (.seq (.ifS (.tor (.tnot (.tv (.blt .isinstance (.argN 4 (.consE (.bty "tuple") .nilE))))) (.tor (.tcp .NotEq (.consE (.blt .len (.argN 4 .nilE)) (.consE (.cI 2) .nilE))) (.tnot (.tv (.call 5 (.consE (.ixe (.argN 4 (.consE (.cI 0) .nilE))) (.consE (.cI 0) (.consE (.bop .Sub (.argN 1 (.consE (.cI 1) .nilE))) .nilE)))))))) (.seq (.ret (.cB false)) .skip) .skip)
      (.seq (.ifS (.tor (.tnot (.tv (.call 20 (.consE (.ixe (.argN 4 (.consE (.cI 1) .nilE))) (.consE (.blt .len (.argN 3 .nilE)) .nilE))))) (.tnot (.tv (.ixe (.argN 4 (.consE (.cI 1) .nilE)))))) (.seq (.ret (.cB false)) .skip) .skip) .skip)))
    (P := fun ds e => ∃ (z : Sl) (r : List (Int × List Int)), e = [y0, .sh (.int c), .sh (iT a), .sh (.tup (ss.map stD)), z] ∧ ds = r.map stD ∧ ∀ p ∈ r, p ∈ ss) (ds := ss.map stD) (e := [y0, .sh (.int c), .sh (iT a), .sh (.tup (ss.map stD)), y4]) (fun d r e ⟨z, l, he, hl, hp⟩ => by
      subst he
      cases l with
      | nil => cases hl
      | cons p l =>
        cases hl
        obtain ⟨q, b⟩ := p
        obtain ⟨⟨q0, q1⟩, hb⟩ := h.nx (q, b) (hp _ List.mem_cons_self)
        have hw := run_within_t (G := G) (fs := fs) (n := n + 1) (i := q) (lo := 0) (hi := c - 1) q0 (by omega)
        have hr := run_rising (G := G) (fs := fs) (n := n) hb
        obtain ⟨L, hL⟩ : ∃ L : Int, L = (ss.length : Int) := ⟨_, rfl⟩
        rw [← hL] at hr
        have hlen : pBlt .len [.tup (ss.map stD)] = some (.sh (.int L)) := by rw [blt_lenT, List.length_map, hL]
        have l2 : pBlt .len [stD (q, b)] = some (.sh (.int 2)) := rfl
        have i0 : pIx (stD (q, b)) (.int 0) = some (.sh (.int q)) := rfl
        have i1 : pIx (stD (q, b)) (.int 1) = some (.sh (iT b)) := rfl
        have ne : D.truth (iT b) = some true := by
          show some (!(b.map D.int).isEmpty) = _
          rw [isEmpty_map hb.ne]; rfl
        refine ⟨_, ?_, .sh (stD (q, b)), l, rfl, rfl, fun y hy => hp y (List.mem_cons_of_mem _ hy)⟩
        show ev G (C3 G fs n) _ [y0, .sh (.int c), .sh (iT a), .sh (.tup (ss.map stD)), .sh (stD (q, b))] = _
        have it : isiD (stD (q, b)) "tuple" = some true := rfl
        generalize hX : stD (q, b) = X at l2 i0 i1 it ⊢
        generalize hY : iT b = Y at hr i1 ne ⊢
        simp only [ev, ↓Res.bind_hide, Res.bindC_ok, Res.bindC_ex, flOf_fl, tstOf_bl, argsOf_args, valOf_val, itsOf_its, List.getElem?_cons_zero, List.getElem?_cons_succ, look_nil, look_vl, look_nm, hand_nil, hand_vl, hand_nm, handM_sh, handM_ow, once_nil, once_vl, once_nm, onceM_sh, onceM_ow, isNm, List.any_nil, List.any_cons, back_nil, back_vl, back_nm, backM_sh, backM_ow, vals_nil, vals_vl, d_sh, d_ow, down_sh, down_ow, Option.bind_some, Option.map_some, pIx_0, pIx_4, ixN_4, cop_eq, cop_ne, cop_gt, cop_lt, cop_le, cop_ge, ofO_some, bop_add, bop_sub, uop_sub, pow18, blt_int, blt_len, blt_abs, blt_list, blt_isi, decide_eq_true_eq, ↓reduceIte, decide_false, decide_true, Bool.false_eq_true, List.length_cons, List.length_nil, Nat.zero_add, Nat.reduceAdd, Nat.reduceLeDiff, Nat.reduceEqDiff, Nat.reduceBEq, List.set_cons_zero, List.set_cons_succ, Nat.reduceLT, Bool.not_true, Bool.not_false, Bool.or_false, Bool.false_or, Bool.and_true, Bool.true_and, beq_self_eq_true, eq_self, ↓ev_seqK, seqK_nx, seqK_rt, seqK_bk, seqK_ct, seqK_ex, tr_bl, Rt_ok, isT_tup, valOf_ex, argsOf_ex, tstOf_ex, flOf_ex, itsOf_ex, pT0, pT1, Int.reduceEq, Int.reduceLT, Int.reduceLE, hw, hr, hlen, l2, i0, i1, it, ne]) ⟨y4, ss, rfl, rfl, fun p hp => hp⟩
  obtain ⟨e', h1, z, r, rfl, _⟩ := key
  refine ⟨z, ?_⟩
  unfold Fn.is_system.f0
  rw [ev_forSh (i := 3) (ds := ss.map stD) rfl rfl]
  exact h1
theorem run_is_system {c : Int} {a : List Int} {ss : List (Int × List Int)} (h : SysOk c a ss) : run G fs (n + 1 + 1 + 1 + 1) 21 [.sh (sysD c a ss)] = .ok (.sh (.bl true), [.sh (sysD c a ss)]) := by
  refine run_sh (F := Fn.is_system) rfl rfl ?_
  show Rt (ev G (C3 G fs n) Fn.is_system.b [.sh (sysD c a ss), .un, .un, .un, .un]) _
  obtain ⟨z, hf⟩ := sys_f0 (G := G) (fs := fs) (n := n) h (y0 := .sh (sysD c a ss)) (y4 := .un)
  have hw := run_within_t (G := G) (fs := fs) (n := n + 1) (i := c) (lo := 1) (hi := 4) h.c0 h.c1
  have hr := run_rising (G := G) (fs := fs) (n := n) h.st
  obtain ⟨L, hL⟩ : ∃ L : Int, L = (ss.length : Int) := ⟨_, rfl⟩
  rw [← hL] at hr
  have hlen : pBlt .len [.tup (ss.map stD)] = some (.sh (.int L)) := by rw [blt_lenT, List.length_map, hL]
  have a1 : (1 : Int) ≤ L := by have := h.s0; omega
  have a8 : L ≤ 8 := by have := h.s1; omega
  have ne : D.truth (iT a) = some true := by
    show some (!(a.map D.int).isEmpty) = _
    rw [isEmpty_map h.st.ne]; rfl
  have it : ∀ ds : List D, isiD (.tup ds) "tuple" = some true := fun _ => rfl
  have l3 : ∀ x y z : D, pBlt .len [.tup [x, y, z]] = some (.sh (.int 3)) := fun _ _ _ => rfl
  have s0 : ev G (C3 G fs n) Fn.is_system.s0 [.sh (sysD c a ss), .un, .un, .un, .un] = .ok (.fl .nx, [.sh (sysD c a ss), .un, .un, .un, .un]) := by
    unfold Fn.is_system.s0
    simp only [ev, ↓Res.bind_hide, Res.bindC_ok, Res.bindC_ex, flOf_fl, tstOf_bl, argsOf_args, valOf_val, itsOf_its, List.getElem?_cons_zero, List.getElem?_cons_succ, look_nil, look_vl, look_nm, hand_nil, hand_vl, hand_nm, handM_sh, handM_ow, once_nil, once_vl, once_nm, onceM_sh, onceM_ow, isNm, List.any_nil, List.any_cons, back_nil, back_vl, back_nm, backM_sh, backM_ow, vals_nil, vals_vl, d_sh, d_ow, down_sh, down_ow, Option.bind_some, Option.map_some, pIx_0, pIx_4, ixN_4, cop_eq, cop_ne, cop_gt, cop_lt, cop_le, cop_ge, ofO_some, bop_add, bop_sub, uop_sub, pow18, blt_int, blt_len, blt_abs, blt_list, blt_isi, decide_eq_true_eq, ↓reduceIte, decide_false, decide_true, Bool.false_eq_true, List.length_cons, List.length_nil, Nat.zero_add, Nat.reduceAdd, Nat.reduceLeDiff, Nat.reduceEqDiff, Nat.reduceBEq, List.set_cons_zero, List.set_cons_succ, Nat.reduceLT, Bool.not_true, Bool.not_false, Bool.or_false, Bool.false_or, Bool.and_true, Bool.true_and, beq_self_eq_true, eq_self, ↓ev_seqK, seqK_nx, seqK_rt, seqK_bk, seqK_ct, seqK_ex, tr_bl, Rt_ok, isT_tup, valOf_ex, argsOf_ex, tstOf_ex, flOf_ex, itsOf_ex, pT0, pT1, Int.reduceEq, Int.reduceLT, Int.reduceLE, hw, it, l3, h5.e] <;> rfl
  have s1 : ev G (C3 G fs n) Fn.is_system.s1 [.sh (sysD c a ss), .un, .un, .un, .un] = .ok (.fl .nx, [.sh (sysD c a ss), .sh (.int c), .sh (iT a), .sh (.tup (ss.map stD)), .un]) := by
    unfold Fn.is_system.s1
    simp only [ev, ↓Res.bind_hide, Res.bindC_ok, Res.bindC_ex, flOf_fl, tstOf_bl, argsOf_args, valOf_val, itsOf_its, List.getElem?_cons_zero, List.getElem?_cons_succ, look_nil, look_vl, look_nm, hand_nil, hand_vl, hand_nm, handM_sh, handM_ow, once_nil, once_vl, once_nm, onceM_sh, onceM_ow, isNm, List.any_nil, List.any_cons, back_nil, back_vl, back_nm, backM_sh, backM_ow, vals_nil, vals_vl, d_sh, d_ow, down_sh, down_ow, Option.bind_some, Option.map_some, pIx_0, pIx_4, ixN_4, cop_eq, cop_ne, cop_gt, cop_lt, cop_le, cop_ge, ofO_some, bop_add, bop_sub, uop_sub, pow18, blt_int, blt_len, blt_abs, blt_list, blt_isi, decide_eq_true_eq, ↓reduceIte, decide_false, decide_true, Bool.false_eq_true, List.length_cons, List.length_nil, Nat.zero_add, Nat.reduceAdd, Nat.reduceLeDiff, Nat.reduceEqDiff, Nat.reduceBEq, List.set_cons_zero, List.set_cons_succ, Nat.reduceLT, Bool.not_true, Bool.not_false, Bool.or_false, Bool.false_or, Bool.and_true, Bool.true_and, beq_self_eq_true, eq_self, ↓ev_seqK, seqK_nx, seqK_rt, seqK_bk, seqK_ct, seqK_ex, tr_bl, Rt_ok, isT_tup, valOf_ex, argsOf_ex, tstOf_ex, flOf_ex, itsOf_ex, pT0, pT1, Int.reduceEq, Int.reduceLT, Int.reduceLE] <;> rfl
  have s2 : ev G (C3 G fs n) Fn.is_system.s2 [.sh (sysD c a ss), .sh (.int c), .sh (iT a), .sh (.tup (ss.map stD)), .un] = .ok (.fl .nx, [.sh (sysD c a ss), .sh (.int c), .sh (iT a), .sh (.tup (ss.map stD)), .un]) := by
    unfold Fn.is_system.s2
    simp only [ev, ↓Res.bind_hide, Res.bindC_ok, Res.bindC_ex, flOf_fl, tstOf_bl, argsOf_args, valOf_val, itsOf_its, List.getElem?_cons_zero, List.getElem?_cons_succ, look_nil, look_vl, look_nm, hand_nil, hand_vl, hand_nm, handM_sh, handM_ow, once_nil, once_vl, once_nm, onceM_sh, onceM_ow, isNm, List.any_nil, List.any_cons, back_nil, back_vl, back_nm, backM_sh, backM_ow, vals_nil, vals_vl, d_sh, d_ow, down_sh, down_ow, Option.bind_some, Option.map_some, pIx_0, pIx_4, ixN_4, cop_eq, cop_ne, cop_gt, cop_lt, cop_le, cop_ge, ofO_some, bop_add, bop_sub, uop_sub, pow18, blt_int, blt_len, blt_abs, blt_list, blt_isi, decide_eq_true_eq, ↓reduceIte, decide_false, decide_true, Bool.false_eq_true, List.length_cons, List.length_nil, Nat.zero_add, Nat.reduceAdd, Nat.reduceLeDiff, Nat.reduceEqDiff, Nat.reduceBEq, List.set_cons_zero, List.set_cons_succ, Nat.reduceLT, Bool.not_true, Bool.not_false, Bool.or_false, Bool.false_or, Bool.and_true, Bool.true_and, beq_self_eq_true, eq_self, ↓ev_seqK, seqK_nx, seqK_rt, seqK_bk, seqK_ct, seqK_ex, tr_bl, Rt_ok, isT_tup, valOf_ex, argsOf_ex, tstOf_ex, flOf_ex, itsOf_ex, pT0, pT1, Int.reduceEq, Int.reduceLT, Int.reduceLE, hlen, it, h6.e, a1, a8] <;> rfl
  have s3 : ev G (C3 G fs n) Fn.is_system.s3 [.sh (sysD c a ss), .sh (.int c), .sh (iT a), .sh (.tup (ss.map stD)), .un] = .ok (.fl .nx, [.sh (sysD c a ss), .sh (.int c), .sh (iT a), .sh (.tup (ss.map stD)), .un]) := by
    unfold Fn.is_system.s3
    simp only [ev, ↓Res.bind_hide, Res.bindC_ok, Res.bindC_ex, flOf_fl, tstOf_bl, argsOf_args, valOf_val, itsOf_its, List.getElem?_cons_zero, List.getElem?_cons_succ, look_nil, look_vl, look_nm, hand_nil, hand_vl, hand_nm, handM_sh, handM_ow, once_nil, once_vl, once_nm, onceM_sh, onceM_ow, isNm, List.any_nil, List.any_cons, back_nil, back_vl, back_nm, backM_sh, backM_ow, vals_nil, vals_vl, d_sh, d_ow, down_sh, down_ow, Option.bind_some, Option.map_some, pIx_0, pIx_4, ixN_4, cop_eq, cop_ne, cop_gt, cop_lt, cop_le, cop_ge, ofO_some, bop_add, bop_sub, uop_sub, pow18, blt_int, blt_len, blt_abs, blt_list, blt_isi, decide_eq_true_eq, ↓reduceIte, decide_false, decide_true, Bool.false_eq_true, List.length_cons, List.length_nil, Nat.zero_add, Nat.reduceAdd, Nat.reduceLeDiff, Nat.reduceEqDiff, Nat.reduceBEq, List.set_cons_zero, List.set_cons_succ, Nat.reduceLT, Bool.not_true, Bool.not_false, Bool.or_false, Bool.false_or, Bool.and_true, Bool.true_and, beq_self_eq_true, eq_self, ↓ev_seqK, seqK_nx, seqK_rt, seqK_bk, seqK_ct, seqK_ex, tr_bl, Rt_ok, isT_tup, valOf_ex, argsOf_ex, tstOf_ex, flOf_ex, itsOf_ex, pT0, pT1, Int.reduceEq, Int.reduceLT, Int.reduceLE, hlen, hr, ne] <;> rfl
  unfold Fn.is_system.b Fn.is_system.s4 Fn.is_system.s5
  simp only [ev, ↓Res.bind_hide, Res.bindC_ok, Res.bindC_ex, flOf_fl, tstOf_bl, argsOf_args, valOf_val, itsOf_its, List.getElem?_cons_zero, List.getElem?_cons_succ, look_nil, look_vl, look_nm, hand_nil, hand_vl, hand_nm, handM_sh, handM_ow, once_nil, once_vl, once_nm, onceM_sh, onceM_ow, isNm, List.any_nil, List.any_cons, back_nil, back_vl, back_nm, backM_sh, backM_ow, vals_nil, vals_vl, d_sh, d_ow, down_sh, down_ow, Option.bind_some, Option.map_some, pIx_0, pIx_4, ixN_4, cop_eq, cop_ne, cop_gt, cop_lt, cop_le, cop_ge, ofO_some, bop_add, bop_sub, uop_sub, pow18, blt_int, blt_len, blt_abs, blt_list, blt_isi, decide_eq_true_eq, ↓reduceIte, decide_false, decide_true, Bool.false_eq_true, List.length_cons, List.length_nil, Nat.zero_add, Nat.reduceAdd, Nat.reduceLeDiff, Nat.reduceEqDiff, Nat.reduceBEq, List.set_cons_zero, List.set_cons_succ, Nat.reduceLT, Bool.not_true, Bool.not_false, Bool.or_false, Bool.false_or, Bool.and_true, Bool.true_and, beq_self_eq_true, eq_self, ↓ev_seqK, seqK_nx, seqK_rt, seqK_bk, seqK_ct, seqK_ex, tr_bl, Rt_ok, isT_tup, valOf_ex, argsOf_ex, tstOf_ex, flOf_ex, itsOf_ex, pT0, pT1, Int.reduceEq, Int.reduceLT, Int.reduceLE, s0, s1, s2, s3, hf]
theorem run_check {c : Int} {a : List Int} {ss : List (Int × List Int)} (h : SysOk c a ss) : run G fs (n + 1 + 1 + 1 + 1 + 1) 22 [.sh (sysD c a ss)] = .ok (.sh .non, [.sh (sysD c a ss)]) := by
  have h1 := run_is_system (G := G) (fs := fs) (n := n) h
  refine run_nx (F := Fn.check_system) (e := [.sh (sysD c a ss)]) rfl ?_ rfl
  show ev G (run G fs (n + 1 + 1 + 1 + 1)) Fn.check_system.b [.sh (sysD c a ss)] = _
  unfold Fn.check_system.b
  simp only [ev, ↓Res.bind_hide, Res.bindC_ok, Res.bindC_ex, flOf_fl, tstOf_bl, argsOf_args, valOf_val, itsOf_its, List.getElem?_cons_zero, List.getElem?_cons_succ, look_nil, look_vl, look_nm, hand_nil, hand_vl, hand_nm, handM_sh, handM_ow, once_nil, once_vl, once_nm, onceM_sh, onceM_ow, isNm, List.any_nil, List.any_cons, back_nil, back_vl, back_nm, backM_sh, backM_ow, vals_nil, vals_vl, d_sh, d_ow, down_sh, down_ow, Option.bind_some, Option.map_some, pIx_0, pIx_4, ixN_4, cop_eq, cop_ne, cop_gt, cop_lt, cop_le, cop_ge, ofO_some, bop_add, bop_sub, uop_sub, pow18, blt_int, blt_len, blt_abs, blt_list, blt_isi, decide_eq_true_eq, ↓reduceIte, decide_false, decide_true, Bool.false_eq_true, List.length_cons, List.length_nil, Nat.zero_add, Nat.reduceAdd, Nat.reduceLeDiff, Nat.reduceEqDiff, Nat.reduceBEq, List.set_cons_zero, List.set_cons_succ, Nat.reduceLT, Bool.not_true, Bool.not_false, Bool.or_false, Bool.false_or, Bool.and_true, Bool.true_and, beq_self_eq_true, eq_self, ↓ev_seqK, seqK_nx, seqK_rt, seqK_bk, seqK_ct, seqK_ex, tr_bl, Rt_ok, isT_tup, valOf_ex, argsOf_ex, tstOf_ex, flOf_ex, itsOf_ex, pT0, pT1, Int.reduceEq, Int.reduceLT, Int.reduceLE, h1] <;> rfl
end
end RF


/-! LP2: what a path is -/
namespace RF
open PySem PySem.Spec PyProof.Rows L2
/-- is_path_of -/
def Fn.is_path_of.s0 : I := (.ifS (.tor (.tnot (.tv (.blt .isinstance (.argN 1 (.consE (.bty "tuple") .nilE))))) (.tnot (.tn 1)))
  (.seq (.ret (.cB false))
  .skip)
  .skip)
def Fn.is_path_of.f0 : I := (.forO 1 (.tN 2)
  (.seq (.ifS (.tnot (.tv (.call 5 (.argN 2 (.consE (.cI 0) (.consE (.bop .Sub (.consE (.blt .len (.consE (.ixe (.argN 0 (.consE (.cI 2) .nilE))) .nilE)) (.consE (.cI 1) .nilE))) .nilE))))))
  (.seq (.ret (.cB false))
  .skip)
  .skip)
  .skip))
def Fn.is_path_of.s1 : I := Fn.is_path_of.f0
def Fn.is_path_of.s2 : I := (.ifS (.tcp .NotIn (.consE (.ixe (.argN 1 (.consE (.cI 0) .nilE))) (.consE (.ixe (.argN 0 (.consE (.cI 1) .nilE))) .nilE)))
  (.seq (.ret (.cB false))
  .skip)
  .skip)
def Fn.is_path_of.f1 : I := (.forS (.tN 3) (.itR2 (.consE (.cI 1) (.consE (.blt .len (.argN 1 .nilE)) .nilE)))
  (.seq (.ifS (.tcp .NotIn (.consE (.ixe (.argN 1 (.argN 3 .nilE))) (.consE (.ixe (.consE (.ixe (.consE (.ixe (.argN 0 (.consE (.cI 2) .nilE))) (.consE (.ixe (.argN 1 (.consE (.bop .Sub (.argN 3 (.consE (.cI 1) .nilE))) .nilE))) .nilE))) (.consE (.cI 1) .nilE))) .nilE)))
  (.seq (.ret (.cB false))
  .skip)
  .skip)
  .skip))
def Fn.is_path_of.s3 : I := Fn.is_path_of.f1
def Fn.is_path_of.s4 : I := (.ret (.cB true))
def Fn.is_path_of.b : I :=
  (.seq Fn.is_path_of.s0 (.seq Fn.is_path_of.s1 (.seq Fn.is_path_of.s2 (.seq Fn.is_path_of.s3 (.seq Fn.is_path_of.s4 .skip)))))
def Fn.is_path_of : FDef := ⟨2, 4, [true, true], Fn.is_path_of.b⟩
/-- is_path -/
def Fn.is_path.s0 : I := (.exs (.call 22 (.argN 0 .nilE)))
def Fn.is_path.s1 : I := (.ret (.call 29 (.argN 0 (.argN 1 .nilE))))
def Fn.is_path.b : I :=
  (.seq Fn.is_path.s0 (.seq Fn.is_path.s1 .skip))
def Fn.is_path : FDef := ⟨2, 2, [true, true], Fn.is_path.b⟩
/-- _law_is -/
def Fn.law_is.s0 : I := (.ifS (.tcp .Eq (.argN 1 (.consE (.tupE .nilE) .nilE)))
  (.seq (.ret (.cB false))
  .skip)
  .skip)
def Fn.law_is.f0 : I := (.forO 1 (.tN 2)
  (.seq (.ifS (.tor (.tcp .Lt (.argN 2 (.consE (.cI 0) .nilE))) (.tcp .GtE (.argN 2 (.consE (.blt .len (.consE (.ixe (.argN 0 (.consE (.cI 2) .nilE))) .nilE)) .nilE))))
  (.seq (.ret (.cB false))
  .skip)
  .skip)
  .skip))
def Fn.law_is.s1 : I := Fn.law_is.f0
def Fn.law_is.s2 : I := (.ifS (.tcp .NotIn (.consE (.ixe (.argN 1 (.consE (.cI 0) .nilE))) (.consE (.ixe (.argN 0 (.consE (.cI 1) .nilE))) .nilE)))
  (.seq (.ret (.cB false))
  .skip)
  .skip)
def Fn.law_is.c0 : I := (.lc [3] (.tN 3) (.itR2 (.consE (.cI 1) (.consE (.blt .len (.argN 1 .nilE)) .nilE))) (.ifC (.tcp .NotIn (.consE (.ixe (.argN 1 (.argN 3 .nilE))) (.consE (.ixe (.consE (.ixe (.consE (.ixe (.argN 0 (.consE (.cI 2) .nilE))) (.consE (.ixe (.argN 1 (.consE (.bop .Sub (.argN 3 (.consE (.cI 1) .nilE))) .nilE))) .nilE))) (.consE (.cI 1) .nilE))) .nilE)))) (.var 3))
def Fn.law_is.s3 : I := (.ret (.cop .Eq (.consE Fn.law_is.c0 (.consE (.lstE .nilE) .nilE))))
def Fn.law_is.b : I :=
  (.seq Fn.law_is.s0 (.seq Fn.law_is.s1 (.seq Fn.law_is.s2 (.seq Fn.law_is.s3 .skip))))
def Fn.law_is : FDef := ⟨2, 4, [true, true], Fn.law_is.b⟩
def nxs (ss : List (Int × List Int)) (i : Int) : List Int := (ss.getD i.toNat (0, [])).2
def stepG (ss : List (Int × List Int)) (w : List Int) : D → Bool
  | .int k => decide (w.getD k.toNat 0 ∈ nxs ss (w.getD (k - 1).toNat 0))
  | _ => false
def rngB (m : Nat) (w : List Int) : Bool := (w.map D.int).all fun d => wi d 0 (m - 1)
/-- a path, by the words -/
def isP (a : List Int) (ss : List (Int × List Int)) (w : List Int) : Bool := !w.isEmpty && (rngB ss.length w && (decide (w.getD 0 0 ∈ a) && (rngL 1 w.length).all (stepG ss w)))
theorem rngB_get {m : Nat} {w : List Int} (h : rngB m w = true) {j : Nat} (hj : j < w.length) : 0 ≤ w.getD j 0 ∧ w.getD j 0 < m := by
  have hx : w[j]? = some w[j] := List.getElem?_eq_getElem hj
  have := List.all_eq_true.mp h (.int w[j]) (List.mem_map_of_mem (List.getElem_mem hj))
  have h' : (decide (0 ≤ w[j]) && decide (w[j] ≤ (m : Int) - 1)) = true := this
  rw [Bool.and_eq_true, decide_eq_true_eq, decide_eq_true_eq] at h'
  rw [List.getD_eq_getElem?_getD, hx]
  show 0 ≤ w[j] ∧ w[j] < m
  omega
theorem rng1 {d : D} {L : Nat} (h : d ∈ rngL 1 (L : Int)) : ∃ j : Nat, j + 1 < L ∧ d = .int ((j : Int) + 1) := by
  unfold rngL at h
  obtain ⟨j, hj, rfl⟩ := List.mem_map.mp h
  have := List.mem_range.mp hj
  exact ⟨j, by omega, by rw [Int.add_comm]⟩
theorem ix_w {w : List Int} {j : Nat} {i : Int} (hj : j < w.length) (hi : i = j) : pIx (iT w) (.int i) = some (.sh (.int (w.getD j 0))) := by
  subst hi
  refine pIx_nat ?_
  rw [List.getElem?_map, List.getElem?_eq_getElem hj, List.getD_eq_getElem?_getD, List.getElem?_eq_getElem hj]
  rfl
theorem ix_s {ss : List (Int × List Int)} {i : Int} (h0 : 0 ≤ i) (h1 : i < ss.length) : ∃ q : Int, pIx (.tup (ss.map stD)) (.int i) = some (.sh (.tup [.int q, iT (nxs ss i)])) := by
  have hj : i.toNat < ss.length := by omega
  refine ⟨ss[i.toNat].1, pIx_int h0 ?_⟩
  rw [List.getElem?_map, List.getElem?_eq_getElem hj]
  unfold nxs
  rw [List.getD_eq_getElem?_getD, List.getElem?_eq_getElem hj]
  rfl
section
variable {G : Sig} {fs : FS} {n : Nat} {call : Nat → List Sl → Res (Sl × List Sl)}
theorem itR2_len {e : Env} {w : List Int} {i : Nat} (h : e[i]? = some (.sh (iT w))) (hl : w.length ≤ 1000000) : ev G call (.itR2 (.consE (.cI 1) (.consE (.blt .len (.argN i .nilE)) .nilE))) e = .ok (.its (rngL 1 w.length), e) := by
  obtain ⟨L, hL⟩ : ∃ L : Int, L = (w.length : Int) := ⟨_, rfl⟩
  have hlen : pBlt .len [iT w] = some (.sh (.int L)) := by rw [hL, blt_lenT, List.length_map]
  have i1 : inI62 1 = true := inI' (by decide) (by decide)
  have i2 : inI62 L = true := inI' (by omega) (by omega)
  rw [← hL]
  generalize iT w = X at h hlen
  simp only [ev, ↓Res.bind_hide, Res.bindC_ok, Res.bindC_ex, flOf_fl, tstOf_bl, argsOf_args, valOf_val, itsOf_its, List.getElem?_cons_zero, List.getElem?_cons_succ, look_nil, look_vl, look_nm, hand_nil, hand_vl, hand_nm, handM_sh, handM_ow, once_nil, once_vl, once_nm, onceM_sh, onceM_ow, isNm, List.any_nil, List.any_cons, back_nil, back_vl, back_nm, backM_sh, backM_ow, vals_nil, vals_vl, d_sh, d_ow, down_sh, down_ow, Option.bind_some, Option.map_some, pIx_0, pIx_4, ixN_4, cop_eq, cop_ne, cop_gt, cop_lt, cop_le, cop_ge, ofO_some, bop_add, bop_sub, uop_sub, pow18, blt_int, blt_len, blt_abs, blt_list, blt_isi, decide_eq_true_eq, ↓reduceIte, decide_false, decide_true, Bool.false_eq_true, List.length_cons, List.length_nil, Nat.zero_add, Nat.reduceAdd, Nat.reduceLeDiff, Nat.reduceEqDiff, Nat.reduceBEq, List.set_cons_zero, List.set_cons_succ, Nat.reduceLT, Bool.not_true, Bool.not_false, Bool.or_false, Bool.false_or, Bool.and_true, Bool.true_and, beq_self_eq_true, eq_self, ↓ev_seqK, seqK_nx, seqK_rt, seqK_bk, seqK_ct, seqK_ex, tr_bl, Rt_ok, isT_tup, valOf_ex, argsOf_ex, tstOf_ex, flOf_ex, itsOf_ex, pT0, pT1, Int.reduceEq, Int.reduceLT, Int.reduceLE, h, hlen, i1, i2]
variable [Has fs 4 Fn.is_whole] [Has fs 5 Fn.is_within] [Has fs 29 Fn.is_path_of]
/-- the facts of one look -/
theorem look_f {c : Int} {a : List Int} {ss : List (Int × List Int)} {w : List Int} (hr : rngB ss.length w = true) {j : Nat} (hj : j + 1 < w.length) :
    ∃ (u v q : Int) (N : List Int), pIx (iT w) (.int ((j : Int) + 1)) = some (.sh (.int v)) ∧ pIx (iT w) (.int ((j : Int) + 1 - 1)) = some (.sh (.int u)) ∧ pIx (.tup (ss.map stD)) (.int u) = some (.sh (.tup [.int q, iT N])) ∧ stepG ss w (.int ((j : Int) + 1)) = decide (v ∈ N) := by
  obtain ⟨h0, h1⟩ := rngB_get hr (j := j) (by omega)
  obtain ⟨q, hq⟩ := ix_s (ss := ss) h0 h1
  refine ⟨_, _, q, _, ix_w (j := j + 1) hj (by omega), ix_w (j := j) (by omega) (by omega), hq, ?_⟩
  show decide (w.getD ((j : Int) + 1).toNat 0 ∈ nxs ss (w.getD ((j : Int) + 1 - 1).toNat 0)) = _
  rw [show ((j : Int) + 1).toNat = j + 1 by omega, show ((j : Int) + 1 - 1).toNat = j by omega]
theorem path_f0 {c : Int} {a : List Int} {ss : List (Int × List Int)} {w : List Int} {y2 y3 : Sl} :
    ∃ z, ev G (C2 G fs n) Fn.is_path_of.f0 [.sh (sysD c a ss), .sh (iT w), y2, y3] = .ok (if rngB ss.length w = true then .fl .nx else .fl (.rt (.sh (.bl false))), [.sh (sysD c a ss), .sh (iT w), z, y3]) := by
  have key := forL_all (step := fSt G (C2 G fs n) (.tN 2) (.seq (.ifS (.tnot (.tv (.call 5 (.argN 2 (.consE (.cI 0) (.consE (.bop .Sub (.consE (.blt .len (.consE (.ixe (.argN 0 (.consE (.cI 2) .nilE))) .nilE)) (.consE (.cI 1) .nilE))) .nilE)))))) (.seq (.ret (.cB false)) .skip) .skip) .skip))
    (P := fun e => ∃ z, e = [.sh (sysD c a ss), .sh (iT w), z, y3]) (g := fun d => wi d 0 ((ss.length : Int) - 1)) (s := .sh (.bl false)) (ds := w.map D.int) (e := [.sh (sysD c a ss), .sh (iT w), y2, y3]) (fun d hd e ⟨z, he⟩ => by
      subst he
      obtain ⟨i, _, rfl⟩ := List.mem_map.mp hd
      obtain ⟨L, hL⟩ : ∃ L : Int, L = (ss.length : Int) := ⟨_, rfl⟩
      have hlen : pBlt .len [.tup (ss.map stD)] = some (.sh (.int L)) := by rw [blt_lenT, List.length_map, hL]
      have hw := run_is_within (G := G) (fs := fs) (n := n) (x := .int i) (m := 0) (lo := 0) (hi := L - 1) rfl
      have i2 : pIx (sysD c a ss) (.int 2) = some (.sh (.tup (ss.map stD))) := rfl
      refine ⟨_, ?_, .sh (.int i), rfl⟩
      show ev G (C2 G fs n) _ [.sh (sysD c a ss), .sh (iT w), .sh (.int i), y3] = _
      rw [← hL]
      generalize sysD c a ss = S at i2 ⊢
      generalize D.tup (ss.map stD) = T at i2 hlen ⊢
      cases hb : wi (.int i) 0 (L - 1) <;> (rw [hb] at hw; simp only [ev, ↓Res.bind_hide, Res.bindC_ok, Res.bindC_ex, flOf_fl, tstOf_bl, argsOf_args, valOf_val, itsOf_its, List.getElem?_cons_zero, List.getElem?_cons_succ, look_nil, look_vl, look_nm, hand_nil, hand_vl, hand_nm, handM_sh, handM_ow, once_nil, once_vl, once_nm, onceM_sh, onceM_ow, isNm, List.any_nil, List.any_cons, back_nil, back_vl, back_nm, backM_sh, backM_ow, vals_nil, vals_vl, d_sh, d_ow, down_sh, down_ow, Option.bind_some, Option.map_some, pIx_0, pIx_4, ixN_4, cop_eq, cop_ne, cop_gt, cop_lt, cop_le, cop_ge, ofO_some, bop_add, bop_sub, uop_sub, pow18, blt_int, blt_len, blt_abs, blt_list, blt_isi, decide_eq_true_eq, ↓reduceIte, decide_false, decide_true, Bool.false_eq_true, List.length_cons, List.length_nil, Nat.zero_add, Nat.reduceAdd, Nat.reduceLeDiff, Nat.reduceEqDiff, Nat.reduceBEq, List.set_cons_zero, List.set_cons_succ, Nat.reduceLT, Bool.not_true, Bool.not_false, Bool.or_false, Bool.false_or, Bool.and_true, Bool.true_and, beq_self_eq_true, eq_self, ↓ev_seqK, seqK_nx, seqK_rt, seqK_bk, seqK_ct, seqK_ex, tr_bl, Rt_ok, isT_tup, valOf_ex, argsOf_ex, tstOf_ex, flOf_ex, itsOf_ex, pT0, pT1, Int.reduceEq, Int.reduceLT, Int.reduceLE, hw, hlen, i2] <;> rfl)) ⟨y2, rfl⟩
  obtain ⟨e', h1, z, rfl⟩ := key
  refine ⟨z, ?_⟩
  unfold Fn.is_path_of.f0 rngB
  rw [ev_forSh (i := 1) (ds := w.map D.int) rfl rfl]
  exact h1
theorem path_f1 {c : Int} {a : List Int} {ss : List (Int × List Int)} {w : List Int} (hr : rngB ss.length w = true) (hl : w.length ≤ 1000) {y2 y3 : Sl} :
    ∃ z, ev G (C2 G fs n) Fn.is_path_of.f1 [.sh (sysD c a ss), .sh (iT w), y2, y3] = .ok (if (rngL 1 w.length).all (stepG ss w) = true then .fl .nx else .fl (.rt (.sh (.bl false))), [.sh (sysD c a ss), .sh (iT w), y2, z]) := by
  have key := forL_all (step := fSt G (C2 G fs n) (.tN 3) (.seq (.ifS (.tcp .NotIn (.consE (.ixe (.argN 1 (.argN 3 .nilE))) (.consE (.ixe (.consE (.ixe (.consE (.ixe (.argN 0 (.consE (.cI 2) .nilE))) (.consE (.ixe (.argN 1 (.consE (.bop .Sub (.argN 3 (.consE (.cI 1) .nilE))) .nilE))) .nilE))) (.consE (.cI 1) .nilE))) .nilE))) (.seq (.ret (.cB false)) .skip) .skip) .skip))
    (P := fun e => ∃ z, e = [.sh (sysD c a ss), .sh (iT w), y2, z]) (g := stepG ss w) (s := .sh (.bl false)) (ds := rngL 1 w.length) (e := [.sh (sysD c a ss), .sh (iT w), y2, y3]) (fun d hd e ⟨z, he⟩ => by
      subst he
      obtain ⟨j, hj, rfl⟩ := rng1 hd
      obtain ⟨u, v, q, N, h1, h2, h3, h4⟩ := look_f (c := c) (a := a) hr hj
      have i2 : pIx (sysD c a ss) (.int 2) = some (.sh (.tup (ss.map stD))) := rfl
      have i1 : pIx (.tup [.int q, iT N]) (.int 1) = some (.sh (iT N)) := rfl
      have hn : pCop .NotIn (.int v) (iT N) = some (!decide (v ∈ N)) := notin_intsT
      refine ⟨_, ?_, .sh (.int ((j : Int) + 1)), rfl⟩
      show ev G (C2 G fs n) _ [.sh (sysD c a ss), .sh (iT w), y2, .sh (.int ((j : Int) + 1))] = _
      rw [h4]
      generalize ((j : Int) + 1) = J at h1 h2 ⊢
      generalize sysD c a ss = S at i2 ⊢
      generalize D.tup (ss.map stD) = T at i2 h3 ⊢
      generalize iT w = W at h1 h2 ⊢
      generalize D.tup [.int q, iT N] = Q at i1 h3 ⊢
      generalize iT N = M at i1 hn ⊢
      cases hb : decide (v ∈ N) <;> (rw [hb] at hn; simp only [ev, ↓Res.bind_hide, Res.bindC_ok, Res.bindC_ex, flOf_fl, tstOf_bl, argsOf_args, valOf_val, itsOf_its, List.getElem?_cons_zero, List.getElem?_cons_succ, look_nil, look_vl, look_nm, hand_nil, hand_vl, hand_nm, handM_sh, handM_ow, once_nil, once_vl, once_nm, onceM_sh, onceM_ow, isNm, List.any_nil, List.any_cons, back_nil, back_vl, back_nm, backM_sh, backM_ow, vals_nil, vals_vl, d_sh, d_ow, down_sh, down_ow, Option.bind_some, Option.map_some, pIx_0, pIx_4, ixN_4, cop_eq, cop_ne, cop_gt, cop_lt, cop_le, cop_ge, ofO_some, bop_add, bop_sub, uop_sub, pow18, blt_int, blt_len, blt_abs, blt_list, blt_isi, decide_eq_true_eq, ↓reduceIte, decide_false, decide_true, Bool.false_eq_true, List.length_cons, List.length_nil, Nat.zero_add, Nat.reduceAdd, Nat.reduceLeDiff, Nat.reduceEqDiff, Nat.reduceBEq, List.set_cons_zero, List.set_cons_succ, Nat.reduceLT, Bool.not_true, Bool.not_false, Bool.or_false, Bool.false_or, Bool.and_true, Bool.true_and, beq_self_eq_true, eq_self, ↓ev_seqK, seqK_nx, seqK_rt, seqK_bk, seqK_ct, seqK_ex, tr_bl, Rt_ok, isT_tup, valOf_ex, argsOf_ex, tstOf_ex, flOf_ex, itsOf_ex, pT0, pT1, Int.reduceEq, Int.reduceLT, Int.reduceLE, h1, h2, h3, i1, i2, hn] <;> rfl)) ⟨y3, rfl⟩
  obtain ⟨e', h1, z, rfl⟩ := key
  refine ⟨z, ?_⟩
  unfold Fn.is_path_of.f1
  rw [ev_forS (itR2_len (i := 1) rfl (by omega))]
  exact h1
theorem run_path_of {c : Int} {a : List Int} {ss : List (Int × List Int)} {w : List Int} (hl : w.length ≤ 1000) : run G fs (n + 1 + 1 + 1) 29 [.sh (sysD c a ss), .sh (iT w)] = .ok (.sh (.bl (isP a ss w)), [.sh (sysD c a ss), .sh (iT w)]) := by
  refine run_sh (F := Fn.is_path_of) rfl rfl ?_
  show Rt (ev G (C2 G fs n) Fn.is_path_of.b [.sh (sysD c a ss), .sh (iT w), .un, .un]) _
  have it : isiD (iT w) "tuple" = some true := rfl
  have tr : D.truth (iT w) = some (!w.isEmpty) := by
    show some (!(w.map D.int).isEmpty) = _
    cases w <;> rfl
  have i1 : pIx (sysD c a ss) (.int 1) = some (.sh (iT a)) := rfl
  unfold isP
  cases hw : w.isEmpty with
  | true =>
    rw [hw] at tr
    generalize iT w = W at it tr ⊢
    unfold Fn.is_path_of.b Fn.is_path_of.s0
    simp only [ev, ↓Res.bind_hide, Res.bindC_ok, Res.bindC_ex, flOf_fl, tstOf_bl, argsOf_args, valOf_val, itsOf_its, List.getElem?_cons_zero, List.getElem?_cons_succ, look_nil, look_vl, look_nm, hand_nil, hand_vl, hand_nm, handM_sh, handM_ow, once_nil, once_vl, once_nm, onceM_sh, onceM_ow, isNm, List.any_nil, List.any_cons, back_nil, back_vl, back_nm, backM_sh, backM_ow, vals_nil, vals_vl, d_sh, d_ow, down_sh, down_ow, Option.bind_some, Option.map_some, pIx_0, pIx_4, ixN_4, cop_eq, cop_ne, cop_gt, cop_lt, cop_le, cop_ge, ofO_some, bop_add, bop_sub, uop_sub, pow18, blt_int, blt_len, blt_abs, blt_list, blt_isi, decide_eq_true_eq, ↓reduceIte, decide_false, decide_true, Bool.false_eq_true, List.length_cons, List.length_nil, Nat.zero_add, Nat.reduceAdd, Nat.reduceLeDiff, Nat.reduceEqDiff, Nat.reduceBEq, List.set_cons_zero, List.set_cons_succ, Nat.reduceLT, Bool.not_true, Bool.not_false, Bool.or_false, Bool.false_or, Bool.and_true, Bool.true_and, beq_self_eq_true, eq_self, ↓ev_seqK, seqK_nx, seqK_rt, seqK_bk, seqK_ct, seqK_ex, tr_bl, Rt_ok, isT_tup, valOf_ex, argsOf_ex, tstOf_ex, flOf_ex, itsOf_ex, pT0, pT1, Int.reduceEq, Int.reduceLT, Int.reduceLE, it, tr] <;> rfl
  | false =>
    rw [hw] at tr
    have w0 : 0 < w.length := by
      cases w with
      | nil => cases hw
      | cons x r => exact Nat.succ_pos _
    obtain ⟨z, h0⟩ := path_f0 (G := G) (fs := fs) (n := n) (c := c) (a := a) (ss := ss) (w := w) (y2 := .un) (y3 := .un)
    have x0 := ix_w (w := w) (j := 0) (i := 0) w0 rfl
    have hn : pCop .NotIn (.int (w.getD 0 0)) (iT a) = some (!decide (w.getD 0 0 ∈ a)) := notin_intsT
    cases hr : rngB ss.length w with
    | false =>
      rw [hr] at h0
      generalize iT w = W at it tr h0 ⊢
      unfold Fn.is_path_of.b Fn.is_path_of.s0 Fn.is_path_of.s1
      simp only [ev, ↓Res.bind_hide, Res.bindC_ok, Res.bindC_ex, flOf_fl, tstOf_bl, argsOf_args, valOf_val, itsOf_its, List.getElem?_cons_zero, List.getElem?_cons_succ, look_nil, look_vl, look_nm, hand_nil, hand_vl, hand_nm, handM_sh, handM_ow, once_nil, once_vl, once_nm, onceM_sh, onceM_ow, isNm, List.any_nil, List.any_cons, back_nil, back_vl, back_nm, backM_sh, backM_ow, vals_nil, vals_vl, d_sh, d_ow, down_sh, down_ow, Option.bind_some, Option.map_some, pIx_0, pIx_4, ixN_4, cop_eq, cop_ne, cop_gt, cop_lt, cop_le, cop_ge, ofO_some, bop_add, bop_sub, uop_sub, pow18, blt_int, blt_len, blt_abs, blt_list, blt_isi, decide_eq_true_eq, ↓reduceIte, decide_false, decide_true, Bool.false_eq_true, List.length_cons, List.length_nil, Nat.zero_add, Nat.reduceAdd, Nat.reduceLeDiff, Nat.reduceEqDiff, Nat.reduceBEq, List.set_cons_zero, List.set_cons_succ, Nat.reduceLT, Bool.not_true, Bool.not_false, Bool.or_false, Bool.false_or, Bool.and_true, Bool.true_and, beq_self_eq_true, eq_self, ↓ev_seqK, seqK_nx, seqK_rt, seqK_bk, seqK_ct, seqK_ex, tr_bl, Rt_ok, isT_tup, valOf_ex, argsOf_ex, tstOf_ex, flOf_ex, itsOf_ex, pT0, pT1, Int.reduceEq, Int.reduceLT, Int.reduceLE, it, tr, h0] <;> rfl
    | true =>
      rw [hr] at h0
      obtain ⟨z2, h1⟩ := path_f1 (G := G) (fs := fs) (n := n) (c := c) (a := a) hr hl (y2 := z) (y3 := .un)
      generalize w.getD 0 0 = v at x0 hn ⊢
      cases hv : decide (v ∈ a) with
      | false =>
        rw [hv] at hn
        generalize sysD c a ss = S at i1 h0 h1 ⊢
        generalize iT w = W at it tr h0 h1 x0 ⊢
        generalize iT a = A at i1 hn ⊢
        unfold Fn.is_path_of.b Fn.is_path_of.s0 Fn.is_path_of.s1 Fn.is_path_of.s2
        simp only [ev, ↓Res.bind_hide, Res.bindC_ok, Res.bindC_ex, flOf_fl, tstOf_bl, argsOf_args, valOf_val, itsOf_its, List.getElem?_cons_zero, List.getElem?_cons_succ, look_nil, look_vl, look_nm, hand_nil, hand_vl, hand_nm, handM_sh, handM_ow, once_nil, once_vl, once_nm, onceM_sh, onceM_ow, isNm, List.any_nil, List.any_cons, back_nil, back_vl, back_nm, backM_sh, backM_ow, vals_nil, vals_vl, d_sh, d_ow, down_sh, down_ow, Option.bind_some, Option.map_some, pIx_0, pIx_4, ixN_4, cop_eq, cop_ne, cop_gt, cop_lt, cop_le, cop_ge, ofO_some, bop_add, bop_sub, uop_sub, pow18, blt_int, blt_len, blt_abs, blt_list, blt_isi, decide_eq_true_eq, ↓reduceIte, decide_false, decide_true, Bool.false_eq_true, List.length_cons, List.length_nil, Nat.zero_add, Nat.reduceAdd, Nat.reduceLeDiff, Nat.reduceEqDiff, Nat.reduceBEq, List.set_cons_zero, List.set_cons_succ, Nat.reduceLT, Bool.not_true, Bool.not_false, Bool.or_false, Bool.false_or, Bool.and_true, Bool.true_and, beq_self_eq_true, eq_self, ↓ev_seqK, seqK_nx, seqK_rt, seqK_bk, seqK_ct, seqK_ex, tr_bl, Rt_ok, isT_tup, valOf_ex, argsOf_ex, tstOf_ex, flOf_ex, itsOf_ex, pT0, pT1, Int.reduceEq, Int.reduceLT, Int.reduceLE, it, tr, h0, x0, i1, hn] <;> rfl
      | true =>
        rw [hv] at hn
        generalize hA : (rngL 1 w.length).all (stepG ss w) = r at h1 ⊢
        generalize sysD c a ss = S at i1 h0 h1 ⊢
        generalize iT w = W at it tr h0 h1 x0 ⊢
        generalize iT a = A at i1 hn ⊢
        unfold Fn.is_path_of.b Fn.is_path_of.s0 Fn.is_path_of.s1 Fn.is_path_of.s2 Fn.is_path_of.s3 Fn.is_path_of.s4
        cases r <;> simp only [ev, ↓Res.bind_hide, Res.bindC_ok, Res.bindC_ex, flOf_fl, tstOf_bl, argsOf_args, valOf_val, itsOf_its, List.getElem?_cons_zero, List.getElem?_cons_succ, look_nil, look_vl, look_nm, hand_nil, hand_vl, hand_nm, handM_sh, handM_ow, once_nil, once_vl, once_nm, onceM_sh, onceM_ow, isNm, List.any_nil, List.any_cons, back_nil, back_vl, back_nm, backM_sh, backM_ow, vals_nil, vals_vl, d_sh, d_ow, down_sh, down_ow, Option.bind_some, Option.map_some, pIx_0, pIx_4, ixN_4, cop_eq, cop_ne, cop_gt, cop_lt, cop_le, cop_ge, ofO_some, bop_add, bop_sub, uop_sub, pow18, blt_int, blt_len, blt_abs, blt_list, blt_isi, decide_eq_true_eq, ↓reduceIte, decide_false, decide_true, Bool.false_eq_true, List.length_cons, List.length_nil, Nat.zero_add, Nat.reduceAdd, Nat.reduceLeDiff, Nat.reduceEqDiff, Nat.reduceBEq, List.set_cons_zero, List.set_cons_succ, Nat.reduceLT, Bool.not_true, Bool.not_false, Bool.or_false, Bool.false_or, Bool.and_true, Bool.true_and, beq_self_eq_true, eq_self, ↓ev_seqK, seqK_nx, seqK_rt, seqK_bk, seqK_ct, seqK_ex, tr_bl, Rt_ok, isT_tup, valOf_ex, argsOf_ex, tstOf_ex, flOf_ex, itsOf_ex, pT0, pT1, Int.reduceEq, Int.reduceLT, Int.reduceLE, it, tr, h0, x0, i1, hn, h1] <;> rfl
/-! the same, as the law finds it -/
variable [Has fs 22 Fn.check_system] [Has fs 30 Fn.is_path] [Has fs 31 Fn.law_is]
theorem is_f0 {C : Nat → List Sl → Res (Sl × List Sl)} {c : Int} {a : List Int} {ss : List (Int × List Int)} {w : List Int} {y2 y3 : Sl} :
    ∃ z, ev G C Fn.law_is.f0 [.sh (sysD c a ss), .sh (iT w), y2, y3] = .ok (if rngB ss.length w = true then .fl .nx else .fl (.rt (.sh (.bl false))), [.sh (sysD c a ss), .sh (iT w), z, y3]) := by
  have key := forL_all (step := fSt G C (.tN 2) (.seq (.ifS (.tor (.tcp .Lt (.argN 2 (.consE (.cI 0) .nilE))) (.tcp .GtE (.argN 2 (.consE (.blt .len (.consE (.ixe (.argN 0 (.consE (.cI 2) .nilE))) .nilE)) .nilE)))) (.seq (.ret (.cB false)) .skip) .skip) .skip))
    (P := fun e => ∃ z, e = [.sh (sysD c a ss), .sh (iT w), z, y3]) (g := fun d => wi d 0 ((ss.length : Int) - 1)) (s := .sh (.bl false)) (ds := w.map D.int) (e := [.sh (sysD c a ss), .sh (iT w), y2, y3]) (fun d hd e ⟨z, he⟩ => by
      subst he
      obtain ⟨i, _, rfl⟩ := List.mem_map.mp hd
      obtain ⟨L, hL⟩ : ∃ L : Int, L = (ss.length : Int) := ⟨_, rfl⟩
      have hlen : pBlt .len [.tup (ss.map stD)] = some (.sh (.int L)) := by rw [blt_lenT, List.length_map, hL]
      have i2 : pIx (sysD c a ss) (.int 2) = some (.sh (.tup (ss.map stD))) := rfl
      refine ⟨_, ?_, .sh (.int i), rfl⟩
      show ev G C _ [.sh (sysD c a ss), .sh (iT w), .sh (.int i), y3] = _
      rw [← hL]
      show _ = Res.ok (if (decide (0 ≤ i) && decide (i ≤ L - 1)) = true then _ else _, _)
      generalize sysD c a ss = S at i2 ⊢
      generalize D.tup (ss.map stD) = T at i2 hlen ⊢
      by_cases h0 : i < 0
      · rw [decide_eq_false (show ¬ 0 ≤ i by omega)]
        simp only [ev, ↓Res.bind_hide, Res.bindC_ok, Res.bindC_ex, flOf_fl, tstOf_bl, argsOf_args, valOf_val, itsOf_its, List.getElem?_cons_zero, List.getElem?_cons_succ, look_nil, look_vl, look_nm, hand_nil, hand_vl, hand_nm, handM_sh, handM_ow, once_nil, once_vl, once_nm, onceM_sh, onceM_ow, isNm, List.any_nil, List.any_cons, back_nil, back_vl, back_nm, backM_sh, backM_ow, vals_nil, vals_vl, d_sh, d_ow, down_sh, down_ow, Option.bind_some, Option.map_some, pIx_0, pIx_4, ixN_4, cop_eq, cop_ne, cop_gt, cop_lt, cop_le, cop_ge, ofO_some, bop_add, bop_sub, uop_sub, pow18, blt_int, blt_len, blt_abs, blt_list, blt_isi, decide_eq_true_eq, ↓reduceIte, decide_false, decide_true, Bool.false_eq_true, List.length_cons, List.length_nil, Nat.zero_add, Nat.reduceAdd, Nat.reduceLeDiff, Nat.reduceEqDiff, Nat.reduceBEq, List.set_cons_zero, List.set_cons_succ, Nat.reduceLT, Bool.not_true, Bool.not_false, Bool.or_false, Bool.false_or, Bool.and_true, Bool.true_and, beq_self_eq_true, eq_self, ↓ev_seqK, seqK_nx, seqK_rt, seqK_bk, seqK_ct, seqK_ex, tr_bl, Rt_ok, isT_tup, valOf_ex, argsOf_ex, tstOf_ex, flOf_ex, itsOf_ex, pT0, pT1, Int.reduceEq, Int.reduceLT, Int.reduceLE, h0, hlen, i2, Bool.false_and] <;> rfl
      · rw [decide_eq_true (show 0 ≤ i by omega)]
        by_cases h1 : L ≤ i
        · rw [decide_eq_false (show ¬ i ≤ L - 1 by omega)]
          simp only [ev, ↓Res.bind_hide, Res.bindC_ok, Res.bindC_ex, flOf_fl, tstOf_bl, argsOf_args, valOf_val, itsOf_its, List.getElem?_cons_zero, List.getElem?_cons_succ, look_nil, look_vl, look_nm, hand_nil, hand_vl, hand_nm, handM_sh, handM_ow, once_nil, once_vl, once_nm, onceM_sh, onceM_ow, isNm, List.any_nil, List.any_cons, back_nil, back_vl, back_nm, backM_sh, backM_ow, vals_nil, vals_vl, d_sh, d_ow, down_sh, down_ow, Option.bind_some, Option.map_some, pIx_0, pIx_4, ixN_4, cop_eq, cop_ne, cop_gt, cop_lt, cop_le, cop_ge, ofO_some, bop_add, bop_sub, uop_sub, pow18, blt_int, blt_len, blt_abs, blt_list, blt_isi, decide_eq_true_eq, ↓reduceIte, decide_false, decide_true, Bool.false_eq_true, List.length_cons, List.length_nil, Nat.zero_add, Nat.reduceAdd, Nat.reduceLeDiff, Nat.reduceEqDiff, Nat.reduceBEq, List.set_cons_zero, List.set_cons_succ, Nat.reduceLT, Bool.not_true, Bool.not_false, Bool.or_false, Bool.false_or, Bool.and_true, Bool.true_and, beq_self_eq_true, eq_self, ↓ev_seqK, seqK_nx, seqK_rt, seqK_bk, seqK_ct, seqK_ex, tr_bl, Rt_ok, isT_tup, valOf_ex, argsOf_ex, tstOf_ex, flOf_ex, itsOf_ex, pT0, pT1, Int.reduceEq, Int.reduceLT, Int.reduceLE, h0, h1, hlen, i2, Bool.true_and] <;> rfl
        · rw [decide_eq_true (show i ≤ L - 1 by omega)]
          simp only [ev, ↓Res.bind_hide, Res.bindC_ok, Res.bindC_ex, flOf_fl, tstOf_bl, argsOf_args, valOf_val, itsOf_its, List.getElem?_cons_zero, List.getElem?_cons_succ, look_nil, look_vl, look_nm, hand_nil, hand_vl, hand_nm, handM_sh, handM_ow, once_nil, once_vl, once_nm, onceM_sh, onceM_ow, isNm, List.any_nil, List.any_cons, back_nil, back_vl, back_nm, backM_sh, backM_ow, vals_nil, vals_vl, d_sh, d_ow, down_sh, down_ow, Option.bind_some, Option.map_some, pIx_0, pIx_4, ixN_4, cop_eq, cop_ne, cop_gt, cop_lt, cop_le, cop_ge, ofO_some, bop_add, bop_sub, uop_sub, pow18, blt_int, blt_len, blt_abs, blt_list, blt_isi, decide_eq_true_eq, ↓reduceIte, decide_false, decide_true, Bool.false_eq_true, List.length_cons, List.length_nil, Nat.zero_add, Nat.reduceAdd, Nat.reduceLeDiff, Nat.reduceEqDiff, Nat.reduceBEq, List.set_cons_zero, List.set_cons_succ, Nat.reduceLT, Bool.not_true, Bool.not_false, Bool.or_false, Bool.false_or, Bool.and_true, Bool.true_and, beq_self_eq_true, eq_self, ↓ev_seqK, seqK_nx, seqK_rt, seqK_bk, seqK_ct, seqK_ex, tr_bl, Rt_ok, isT_tup, valOf_ex, argsOf_ex, tstOf_ex, flOf_ex, itsOf_ex, pT0, pT1, Int.reduceEq, Int.reduceLT, Int.reduceLE, h0, h1, hlen, i2, Bool.true_and] <;> rfl) ⟨y2, rfl⟩
  obtain ⟨e', h1, z, rfl⟩ := key
  refine ⟨z, ?_⟩
  unfold Fn.law_is.f0 rngB
  rw [ev_forSh (i := 1) (ds := w.map D.int) rfl rfl]
  exact h1
def badG (ss : List (Int × List Int)) (w : List Int) (d : D) : Option D := if stepG ss w d = true then none else some d
theorem fm_bad {ss : List (Int × List Int)} {w : List Int} : ∀ ds : List D, (ds.filterMap (badG ss w)).isEmpty = ds.all (stepG ss w)
  | [] => rfl
  | d :: ds => by
    cases h : stepG ss w d with
    | true => rw [List.filterMap_cons_none (show badG ss w d = none by unfold badG; rw [if_pos h]), fm_bad ds, List.all_cons, h]; rfl
    | false => rw [List.filterMap_cons_some (show badG ss w d = some d by unfold badG; rw [if_neg (by rw [h]; decide)]), List.all_cons, h]; rfl
theorem is_c0 {C : Nat → List Sl → Res (Sl × List Sl)} {c : Int} {a : List Int} {ss : List (Int × List Int)} {w : List Int} (hr : rngB ss.length w = true) (hl : w.length ≤ 1000) {y2 : Sl} :
    ev G C Fn.law_is.c0 [.sh (sysD c a ss), .sh (iT w), y2, .un] = .ok (.val (.ow (.lst ((rngL 1 w.length).filterMap (badG ss w)))), [.sh (sysD c a ss), .sh (iT w), y2, .un]) := by
  have hz : (rngL 1 (w.length : Int)).length ≤ 1000 := by
    unfold rngL
    rw [List.length_map, List.length_range]
    omega
  refine ev_lc1 (i := 3) (s0 := .un) rfl nofun (itR2_len (i := 1) rfl (by omega)) (sz' (by omega)) fun d hd => ?_
  obtain ⟨j, hj, rfl⟩ := rng1 hd
  obtain ⟨u, v, q, N, h1, h2, h3, h4⟩ := look_f (c := c) (a := a) hr hj
  have i2 : pIx (sysD c a ss) (.int 2) = some (.sh (.tup (ss.map stD))) := rfl
  have i1 : pIx (.tup [.int q, iT N]) (.int 1) = some (.sh (iT N)) := rfl
  have hn : pCop .NotIn (.int v) (iT N) = some (!decide (v ∈ N)) := notin_intsT
  refine ⟨!decide (v ∈ N), ?_, fun h => ?_, fun h => ⟨.sh (.int ((j : Int) + 1)), _, rfl, rfl, ?_⟩⟩
  · show ev G C _ [.sh (sysD c a ss), .sh (iT w), y2, .sh (.int ((j : Int) + 1))] = .ok (_, [.sh (sysD c a ss), .sh (iT w), y2, .sh (.int ((j : Int) + 1))])
    generalize ((j : Int) + 1) = J at h1 h2 ⊢
    generalize sysD c a ss = S at i2 ⊢
    generalize D.tup (ss.map stD) = T at i2 h3 ⊢
    generalize iT w = W at h1 h2 ⊢
    generalize D.tup [.int q, iT N] = Q at i1 h3 ⊢
    generalize iT N = M at i1 hn ⊢
    simp only [ev, ↓Res.bind_hide, Res.bindC_ok, Res.bindC_ex, flOf_fl, tstOf_bl, argsOf_args, valOf_val, itsOf_its, List.getElem?_cons_zero, List.getElem?_cons_succ, look_nil, look_vl, look_nm, hand_nil, hand_vl, hand_nm, handM_sh, handM_ow, once_nil, once_vl, once_nm, onceM_sh, onceM_ow, isNm, List.any_nil, List.any_cons, back_nil, back_vl, back_nm, backM_sh, backM_ow, vals_nil, vals_vl, d_sh, d_ow, down_sh, down_ow, Option.bind_some, Option.map_some, pIx_0, pIx_4, ixN_4, cop_eq, cop_ne, cop_gt, cop_lt, cop_le, cop_ge, ofO_some, bop_add, bop_sub, uop_sub, pow18, blt_int, blt_len, blt_abs, blt_list, blt_isi, decide_eq_true_eq, ↓reduceIte, decide_false, decide_true, Bool.false_eq_true, List.length_cons, List.length_nil, Nat.zero_add, Nat.reduceAdd, Nat.reduceLeDiff, Nat.reduceEqDiff, Nat.reduceBEq, List.set_cons_zero, List.set_cons_succ, Nat.reduceLT, Bool.not_true, Bool.not_false, Bool.or_false, Bool.false_or, Bool.and_true, Bool.true_and, beq_self_eq_true, eq_self, ↓ev_seqK, seqK_nx, seqK_rt, seqK_bk, seqK_ct, seqK_ex, tr_bl, Rt_ok, isT_tup, valOf_ex, argsOf_ex, tstOf_ex, flOf_ex, itsOf_ex, pT0, pT1, Int.reduceEq, Int.reduceLT, Int.reduceLE, h1, h2, h3, i1, i2, hn] <;> rfl
  · unfold badG
    rw [h4, if_pos (by simpa using h)]
  · unfold badG
    rw [h4, if_neg (by simpa using h)]
theorem eq_nil {ds : List D} (h : (D.lst ds).pl deepest = true) : pCop .Eq (.lst ds) (.lst []) = some ds.isEmpty := by
  rw [cop_eqD h rfl]
  cases ds <;> rfl
theorem eq_nilT {ds : List D} (h : (D.tup ds).pl deepest = true) : pCop .Eq (.tup ds) (.tup []) = some ds.isEmpty := by
  rw [cop_eqD h rfl]
  cases ds <;> rfl
theorem pl_iT {w : List Int} : (iT w).pl deepest = true := pls_ints (n := 39) w
theorem run_law_is {c : Int} {a : List Int} {ss : List (Int × List Int)} {w : List Int} (hl : w.length ≤ 1000) : run G fs (n + 1) 31 [.sh (sysD c a ss), .sh (iT w)] = .ok (.sh (.bl (isP a ss w)), [.sh (sysD c a ss), .sh (iT w)]) := by
  refine run_sh (F := Fn.law_is) rfl rfl ?_
  show Rt (ev G (run G fs n) Fn.law_is.b [.sh (sysD c a ss), .sh (iT w), .un, .un]) _
  have l0 : 0 ≤ sizeLine := sz (by decide)
  have he : pCop .Eq (iT w) (.tup []) = some w.isEmpty := by
    rw [eq_nilT pl_iT]
    cases w <;> rfl
  have i1 : pIx (sysD c a ss) (.int 1) = some (.sh (iT a)) := rfl
  unfold isP
  cases hw : w.isEmpty with
  | true =>
    rw [hw] at he
    generalize iT w = W at he ⊢
    unfold Fn.law_is.b Fn.law_is.s0
    simp only [ev, ↓Res.bind_hide, Res.bindC_ok, Res.bindC_ex, flOf_fl, tstOf_bl, argsOf_args, valOf_val, itsOf_its, List.getElem?_cons_zero, List.getElem?_cons_succ, look_nil, look_vl, look_nm, hand_nil, hand_vl, hand_nm, handM_sh, handM_ow, once_nil, once_vl, once_nm, onceM_sh, onceM_ow, isNm, List.any_nil, List.any_cons, back_nil, back_vl, back_nm, backM_sh, backM_ow, vals_nil, vals_vl, d_sh, d_ow, down_sh, down_ow, Option.bind_some, Option.map_some, pIx_0, pIx_4, ixN_4, cop_eq, cop_ne, cop_gt, cop_lt, cop_le, cop_ge, ofO_some, bop_add, bop_sub, uop_sub, pow18, blt_int, blt_len, blt_abs, blt_list, blt_isi, decide_eq_true_eq, ↓reduceIte, decide_false, decide_true, Bool.false_eq_true, List.length_cons, List.length_nil, Nat.zero_add, Nat.reduceAdd, Nat.reduceLeDiff, Nat.reduceEqDiff, Nat.reduceBEq, List.set_cons_zero, List.set_cons_succ, Nat.reduceLT, Bool.not_true, Bool.not_false, Bool.or_false, Bool.false_or, Bool.and_true, Bool.true_and, beq_self_eq_true, eq_self, ↓ev_seqK, seqK_nx, seqK_rt, seqK_bk, seqK_ct, seqK_ex, tr_bl, Rt_ok, isT_tup, valOf_ex, argsOf_ex, tstOf_ex, flOf_ex, itsOf_ex, pT0, pT1, Int.reduceEq, Int.reduceLT, Int.reduceLE, he, l0] <;> rfl
  | false =>
    rw [hw] at he
    have w0 : 0 < w.length := by
      cases w with
      | nil => cases hw
      | cons x r => exact Nat.succ_pos _
    obtain ⟨z, h0⟩ := is_f0 (G := G) (C := run G fs n) (c := c) (a := a) (ss := ss) (w := w) (y2 := .un) (y3 := .un)
    have x0 := ix_w (w := w) (j := 0) (i := 0) w0 rfl
    have hn : pCop .NotIn (.int (w.getD 0 0)) (iT a) = some (!decide (w.getD 0 0 ∈ a)) := notin_intsT
    cases hr : rngB ss.length w with
    | false =>
      rw [hr] at h0
      generalize iT w = W at he h0 ⊢
      unfold Fn.law_is.b Fn.law_is.s0 Fn.law_is.s1
      simp only [ev, ↓Res.bind_hide, Res.bindC_ok, Res.bindC_ex, flOf_fl, tstOf_bl, argsOf_args, valOf_val, itsOf_its, List.getElem?_cons_zero, List.getElem?_cons_succ, look_nil, look_vl, look_nm, hand_nil, hand_vl, hand_nm, handM_sh, handM_ow, once_nil, once_vl, once_nm, onceM_sh, onceM_ow, isNm, List.any_nil, List.any_cons, back_nil, back_vl, back_nm, backM_sh, backM_ow, vals_nil, vals_vl, d_sh, d_ow, down_sh, down_ow, Option.bind_some, Option.map_some, pIx_0, pIx_4, ixN_4, cop_eq, cop_ne, cop_gt, cop_lt, cop_le, cop_ge, ofO_some, bop_add, bop_sub, uop_sub, pow18, blt_int, blt_len, blt_abs, blt_list, blt_isi, decide_eq_true_eq, ↓reduceIte, decide_false, decide_true, Bool.false_eq_true, List.length_cons, List.length_nil, Nat.zero_add, Nat.reduceAdd, Nat.reduceLeDiff, Nat.reduceEqDiff, Nat.reduceBEq, List.set_cons_zero, List.set_cons_succ, Nat.reduceLT, Bool.not_true, Bool.not_false, Bool.or_false, Bool.false_or, Bool.and_true, Bool.true_and, beq_self_eq_true, eq_self, ↓ev_seqK, seqK_nx, seqK_rt, seqK_bk, seqK_ct, seqK_ex, tr_bl, Rt_ok, isT_tup, valOf_ex, argsOf_ex, tstOf_ex, flOf_ex, itsOf_ex, pT0, pT1, Int.reduceEq, Int.reduceLT, Int.reduceLE, he, l0, h0] <;> rfl
    | true =>
      rw [hr] at h0
      have h1 := is_c0 (G := G) (C := run G fs n) (c := c) (a := a) hr hl (y2 := z)
      have hpl : (D.lst ((rngL 1 (w.length : Int)).filterMap (badG ss w))).pl deepest = true := by
        refine pls_of (n := 39) fun d hd => ?_
        obtain ⟨x, hx, hxe⟩ := List.mem_filterMap.mp hd
        obtain ⟨j, _, rfl⟩ := rng1 hx
        unfold badG at hxe
        split at hxe
        · cases hxe
        · cases hxe
          exact pl_int
      have hE : pCop .Eq (.lst ((rngL 1 (w.length : Int)).filterMap (badG ss w))) (.lst []) = some ((rngL 1 w.length).all (stepG ss w)) := by rw [eq_nil hpl, fm_bad]
      generalize w.getD 0 0 = v at x0 hn ⊢
      cases hv : decide (v ∈ a) with
      | false =>
        rw [hv] at hn
        generalize sysD c a ss = S at i1 h0 h1 ⊢
        generalize iT w = W at he h0 h1 x0 ⊢
        generalize iT a = A at i1 hn ⊢
        unfold Fn.law_is.b Fn.law_is.s0 Fn.law_is.s1 Fn.law_is.s2
        simp only [ev, ↓Res.bind_hide, Res.bindC_ok, Res.bindC_ex, flOf_fl, tstOf_bl, argsOf_args, valOf_val, itsOf_its, List.getElem?_cons_zero, List.getElem?_cons_succ, look_nil, look_vl, look_nm, hand_nil, hand_vl, hand_nm, handM_sh, handM_ow, once_nil, once_vl, once_nm, onceM_sh, onceM_ow, isNm, List.any_nil, List.any_cons, back_nil, back_vl, back_nm, backM_sh, backM_ow, vals_nil, vals_vl, d_sh, d_ow, down_sh, down_ow, Option.bind_some, Option.map_some, pIx_0, pIx_4, ixN_4, cop_eq, cop_ne, cop_gt, cop_lt, cop_le, cop_ge, ofO_some, bop_add, bop_sub, uop_sub, pow18, blt_int, blt_len, blt_abs, blt_list, blt_isi, decide_eq_true_eq, ↓reduceIte, decide_false, decide_true, Bool.false_eq_true, List.length_cons, List.length_nil, Nat.zero_add, Nat.reduceAdd, Nat.reduceLeDiff, Nat.reduceEqDiff, Nat.reduceBEq, List.set_cons_zero, List.set_cons_succ, Nat.reduceLT, Bool.not_true, Bool.not_false, Bool.or_false, Bool.false_or, Bool.and_true, Bool.true_and, beq_self_eq_true, eq_self, ↓ev_seqK, seqK_nx, seqK_rt, seqK_bk, seqK_ct, seqK_ex, tr_bl, Rt_ok, isT_tup, valOf_ex, argsOf_ex, tstOf_ex, flOf_ex, itsOf_ex, pT0, pT1, Int.reduceEq, Int.reduceLT, Int.reduceLE, he, l0, h0, x0, i1, hn] <;> rfl
      | true =>
        rw [hv] at hn
        generalize (rngL 1 w.length).all (stepG ss w) = r at hE ⊢
        generalize D.lst ((rngL 1 (w.length : Int)).filterMap (badG ss w)) = E at hE h1 ⊢
        generalize sysD c a ss = S at i1 h0 h1 ⊢
        generalize iT w = W at he h0 h1 x0 ⊢
        generalize iT a = A at i1 hn ⊢
        unfold Fn.law_is.b Fn.law_is.s0 Fn.law_is.s1 Fn.law_is.s2 Fn.law_is.s3
        simp only [ev, ↓Res.bind_hide, Res.bindC_ok, Res.bindC_ex, flOf_fl, tstOf_bl, argsOf_args, valOf_val, itsOf_its, List.getElem?_cons_zero, List.getElem?_cons_succ, look_nil, look_vl, look_nm, hand_nil, hand_vl, hand_nm, handM_sh, handM_ow, once_nil, once_vl, once_nm, onceM_sh, onceM_ow, isNm, List.any_nil, List.any_cons, back_nil, back_vl, back_nm, backM_sh, backM_ow, vals_nil, vals_vl, d_sh, d_ow, down_sh, down_ow, Option.bind_some, Option.map_some, pIx_0, pIx_4, ixN_4, cop_eq, cop_ne, cop_gt, cop_lt, cop_le, cop_ge, ofO_some, bop_add, bop_sub, uop_sub, pow18, blt_int, blt_len, blt_abs, blt_list, blt_isi, decide_eq_true_eq, ↓reduceIte, decide_false, decide_true, Bool.false_eq_true, List.length_cons, List.length_nil, Nat.zero_add, Nat.reduceAdd, Nat.reduceLeDiff, Nat.reduceEqDiff, Nat.reduceBEq, List.set_cons_zero, List.set_cons_succ, Nat.reduceLT, Bool.not_true, Bool.not_false, Bool.or_false, Bool.false_or, Bool.and_true, Bool.true_and, beq_self_eq_true, eq_self, ↓ev_seqK, seqK_nx, seqK_rt, seqK_bk, seqK_ct, seqK_ex, tr_bl, Rt_ok, isT_tup, valOf_ex, argsOf_ex, tstOf_ex, flOf_ex, itsOf_ex, pT0, pT1, Int.reduceEq, Int.reduceLT, Int.reduceLE, he, l0, h0, x0, i1, hn, h1, hE] <;> rfl
variable [Has fs 20 Fn.is_rising] [Has fs 21 Fn.is_system] [h5 : HasC G 5 (.int 4)] [h6 : HasC G 6 (.int 8)]
theorem run_is_path {c : Int} {a : List Int} {ss : List (Int × List Int)} {w : List Int} (h : SysOk c a ss) (hl : w.length ≤ 1000) : run G fs (n + 1 + 1 + 1 + 1 + 1 + 1) 30 [.sh (sysD c a ss), .sh (iT w)] = .ok (.sh (.bl (isP a ss w)), [.sh (sysD c a ss), .sh (iT w)]) := by
  have h1 := run_check (G := G) (fs := fs) (n := n) h
  have h2 := run_path_of (G := G) (fs := fs) (n := n + 1 + 1) (c := c) (a := a) (ss := ss) (w := w) hl
  refine run_sh (F := Fn.is_path) rfl rfl ?_
  show Rt (ev G (run G fs (n + 1 + 1 + 1 + 1 + 1)) Fn.is_path.b [.sh (sysD c a ss), .sh (iT w)]) _
  unfold Fn.is_path.b Fn.is_path.s0 Fn.is_path.s1
  simp only [ev, ↓Res.bind_hide, Res.bindC_ok, Res.bindC_ex, flOf_fl, tstOf_bl, argsOf_args, valOf_val, itsOf_its, List.getElem?_cons_zero, List.getElem?_cons_succ, look_nil, look_vl, look_nm, hand_nil, hand_vl, hand_nm, handM_sh, handM_ow, once_nil, once_vl, once_nm, onceM_sh, onceM_ow, isNm, List.any_nil, List.any_cons, back_nil, back_vl, back_nm, backM_sh, backM_ow, vals_nil, vals_vl, d_sh, d_ow, down_sh, down_ow, Option.bind_some, Option.map_some, pIx_0, pIx_4, ixN_4, cop_eq, cop_ne, cop_gt, cop_lt, cop_le, cop_ge, ofO_some, bop_add, bop_sub, uop_sub, pow18, blt_int, blt_len, blt_abs, blt_list, blt_isi, decide_eq_true_eq, ↓reduceIte, decide_false, decide_true, Bool.false_eq_true, List.length_cons, List.length_nil, Nat.zero_add, Nat.reduceAdd, Nat.reduceLeDiff, Nat.reduceEqDiff, Nat.reduceBEq, List.set_cons_zero, List.set_cons_succ, Nat.reduceLT, Bool.not_true, Bool.not_false, Bool.or_false, Bool.false_or, Bool.and_true, Bool.true_and, beq_self_eq_true, eq_self, ↓ev_seqK, seqK_nx, seqK_rt, seqK_bk, seqK_ct, seqK_ex, tr_bl, Rt_ok, isT_tup, valOf_ex, argsOf_ex, tstOf_ex, flOf_ex, itsOf_ex, pT0, pT1, Int.reduceEq, Int.reduceLT, Int.reduceLE, h1, h2] <;> rfl
end
end RF


/-! LP3: drawn systems and paths -/
namespace RF
open PySem PySem.Spec PyProof.Rows L2
/-- _law_subset -/
def Fn.law_subset.s0 : I := (.asg (.tN 2) (.lstE .nilE))
def Fn.law_subset.f0 : I := (.forS (.tN 3) (.itR (.consE (.call 2 (.argN 0 (.consE (.lstE (.consE (.cI 1) (.consE (.cI 1) (.consE (.cI 1) (.consE (.cI 2) (.consE (.cI 2) (.consE (.cI 3) .nilE))))))) .nilE))) .nilE))
  (.seq (.asg (.tN 4) (.call 1 (.argN 0 (.argN 1 .nilE))))
  (.seq (.ifS (.tcp .NotIn (.argN 4 (.argN 2 .nilE)))
  (.seq (.app 2 (.var 4))
  .skip)
  .skip)
  .skip)))
def Fn.law_subset.s1 : I := Fn.law_subset.f0
def Fn.law_subset.s2 : I := (.ret (.blt .tuple_ (.consE (.blt .sorted_ (.argN 2 .nilE)) .nilE)))
def Fn.law_subset.b : I :=
  (.seq Fn.law_subset.s0 (.seq Fn.law_subset.s1 (.seq Fn.law_subset.s2 .skip)))
def Fn.law_subset : FDef := ⟨2, 5, [true, true], Fn.law_subset.b⟩
/-- _law_system -/
def Fn.law_system.s0 : I := (.asg (.tN 3) (.bop .Add (.consE (.cI 1) (.consE (.call 1 (.argN 0 (.argN 2 .nilE))) .nilE))))
def Fn.law_system.c0 : I := (.lc [5] (.tN 5) (.itR (.argN 3 .nilE)) .ifN (.tupE (.consE (.call 1 (.argN 0 (.argN 1 .nilE))) (.consE (.call 25 (.argN 0 (.argN 3 .nilE))) .nilE))))
def Fn.law_system.s1 : I := (.asg (.tN 4) (.blt .tuple_ (.consE Fn.law_system.c0 .nilE)))
def Fn.law_system.s2 : I := (.ret (.tupE (.consE (.var 1) (.consE (.call 25 (.argN 0 (.argN 3 .nilE))) (.consE (.var 4) .nilE)))))
def Fn.law_system.b : I :=
  (.seq Fn.law_system.s0 (.seq Fn.law_system.s1 (.seq Fn.law_system.s2 .skip)))
def Fn.law_system : FDef := ⟨3, 6, [true, true, true], Fn.law_system.b⟩
/-- _law_path -/
def Fn.law_path.s0 : I := (.asg (.tN 3) (.lstE (.consE (.call 2 (.argN 0 (.consE (.ixe (.argN 1 (.consE (.cI 1) .nilE))) .nilE))) .nilE)))
def Fn.law_path.f0 : I := (.forS (.tN 4) (.itR (.consE (.bop .Sub (.argN 2 (.consE (.cI 1) .nilE))) .nilE))
  (.seq (.app 3 (.call 2 (.argN 0 (.consE (.ixe (.consE (.ixe (.consE (.ixe (.argN 1 (.consE (.cI 2) .nilE))) (.consE (.ixe (.argN 3 (.argN 4 .nilE))) .nilE))) (.consE (.cI 1) .nilE))) .nilE))))
  .skip))
def Fn.law_path.s1 : I := Fn.law_path.f0
def Fn.law_path.s2 : I := (.ret (.blt .tuple_ (.argN 3 .nilE)))
def Fn.law_path.b : I :=
  (.seq Fn.law_path.s0 (.seq Fn.law_path.s1 (.seq Fn.law_path.s2 .skip)))
def Fn.law_path : FDef := ⟨3, 5, [true, true, true], Fn.law_path.b⟩
section
variable {G : Sig} {fs : FS} {n : Nat}
variable [hT : Has fs 1 takeF] [Has fs 2 Fn.law_pick]
theorem run_pickT {w : List Int} {B : Box} (h : B.Ok) (h0 : w ≠ []) (h1 : w.length < 1000) :
    ∃ (x : Int) (B' : Box), run G fs (n + 1 + 1) 2 [B.sl, .sh (iT w)] = .ok (.sh (.int x), [B'.sl, .sh (iT w)]) ∧ x ∈ w ∧ B'.Ok := by
  have l0 : 0 < w.length := by
    cases w with
    | nil => exact absurd rfl h0
    | cons x r => exact Nat.succ_pos _
  obtain ⟨r, B', h2, dr⟩ := run_take (G := G) (fs := fs) (n := n) hT.e (B := B) (m := (w.length : Int)) h (by omega) (by omega)
  have r0 := dr.r0
  have rm := dr.rm
  have hr : r.toNat < w.length := by omega
  refine ⟨w[r.toNat], B', run_rt (F := Fn.law_pick) (e := [B'.sl, .sh (iT w)]) rfl ?_ rfl, List.getElem_mem hr, dr.ok⟩
  show ev G (run G fs (n + 1)) Fn.law_pick.b [B.sl, .sh (iT w)] = _
  have hx : pIx (iT w) (.int r) = some (.sh (.int w[r.toNat])) := by
    have := ix_w (w := w) (j := r.toNat) (i := r) hr (by omega)
    rw [List.getD_eq_getElem?_getD, List.getElem?_eq_getElem hr] at this
    exact this
  have hl : pBlt .len [iT w] = some (.sh (.int (w.length : Int))) := by rw [blt_lenT, List.length_map]
  generalize w[r.toNat] = x at hx ⊢
  generalize (w.length : Int) = L at hl h2
  generalize iT w = W at hx hl ⊢
  unfold Fn.law_pick.b
  simp only [ev, ↓Res.bind_hide, Res.bindC_ok, Res.bindC_ex, flOf_fl, tstOf_bl, argsOf_args, valOf_val, itsOf_its, List.getElem?_cons_zero, List.getElem?_cons_succ, look_nil, look_vl, look_nm, hand_nil, hand_vl, hand_nm, handM_sh, handM_ow, once_nil, once_vl, once_nm, onceM_sh, onceM_ow, isNm, List.any_nil, List.any_cons, back_nil, back_vl, back_nm, backM_sh, backM_ow, vals_nil, vals_vl, d_sh, d_ow, down_sh, down_ow, Option.bind_some, Option.map_some, pIx_0, pIx_4, ixN_4, cop_eq, cop_ne, cop_gt, cop_lt, cop_le, cop_ge, ofO_some, bop_add, bop_sub, uop_sub, pow18, blt_int, blt_len, blt_abs, blt_list, blt_isi, decide_eq_true_eq, ↓reduceIte, decide_false, decide_true, Bool.false_eq_true, List.length_cons, List.length_nil, Nat.zero_add, Nat.reduceAdd, Nat.reduceLeDiff, Nat.reduceEqDiff, Nat.reduceBEq, List.set_cons_zero, List.set_cons_succ, Nat.reduceLT, Bool.not_true, Bool.not_false, Bool.or_false, Bool.false_or, Bool.and_true, Bool.true_and, beq_self_eq_true, eq_self, ↓ev_seqK, seqK_nx, seqK_rt, seqK_bk, seqK_ct, seqK_ex, tr_bl, Rt_ok, isT_tup, valOf_ex, argsOf_ex, tstOf_ex, flOf_ex, itsOf_ex, pT0, pT1, Int.reduceEq, Int.reduceLT, Int.reduceLE, hl, h2, hx]
variable [Has fs 25 Fn.law_subset]
theorem sub_f0 {m : Int} (m0 : 0 < m) (m1 : m ≤ 1000) {B : Box} (hB : B.Ok) {y3 y4 : Sl} (h4 : ∀ d, y4 ≠ .ow d) :
    ∃ B' A z3 z4, ev G (C2 G fs n) Fn.law_subset.f0 [B.sl, .sh (.int m), .ow (.lst []), y3, y4] = .ok (.fl .nx, [Box.sl B', .sh (.int m), .ow (iL A), z3, z4]) ∧ B'.Ok ∧ A.Nodup ∧ (∀ b ∈ A, 0 ≤ b ∧ b < m) ∧ A.length ≤ 3 ∧ A ≠ [] := by
  obtain ⟨c, B1, h1, hc, ok1⟩ := pick_ints (G := G) (fs := fs) (n := n) (menu := [1, 1, 1, 2, 2, 3]) hB (by decide) (by decide)
  have c0 : 1 ≤ c ∧ c ≤ 3 := by
    simp only [List.mem_cons, List.not_mem_nil, or_false] at hc
    omega
  have l6 : 6 ≤ sizeLine := sz (by decide)
  obtain ⟨N, rfl⟩ := Int.eq_ofNat_of_zero_le (show 0 ≤ c by omega)
  have hit : ev G (C2 G fs n) (.itR (.consE (.call 2 (.argN 0 (.consE (.lstE (.consE (.cI 1) (.consE (.cI 1) (.consE (.cI 1) (.consE (.cI 2) (.consE (.cI 2) (.consE (.cI 3) .nilE))))))) .nilE))) .nilE)) [B.sl, .sh (.int m), .ow (.lst []), y3, y4] = .ok (.its (rngL 0 N), [B1.sl, .sh (.int m), .ow (.lst []), y3, y4]) := by
    refine itR_val ?_ (inI' (by omega) (by omega))
    have h1' : C2 G fs n 2 [B.sl, .ow (.lst [.int 1, .int 1, .int 1, .int 2, .int 2, .int 3])] = .ok (.sh (.int N), [B1.sl, .ow (.lst [.int 1, .int 1, .int 1, .int 2, .int 2, .int 3])]) := h1
    simp only [ev, ↓Res.bind_hide, Res.bindC_ok, Res.bindC_ex, flOf_fl, tstOf_bl, argsOf_args, valOf_val, itsOf_its, List.getElem?_cons_zero, List.getElem?_cons_succ, look_nil, look_vl, look_nm, hand_nil, hand_vl, hand_nm, handM_sh, handM_ow, once_nil, once_vl, once_nm, onceM_sh, onceM_ow, isNm, List.any_nil, List.any_cons, back_nil, back_vl, back_nm, backM_sh, backM_ow, vals_nil, vals_vl, d_sh, d_ow, down_sh, down_ow, Option.bind_some, Option.map_some, pIx_0, pIx_4, ixN_4, cop_eq, cop_ne, cop_gt, cop_lt, cop_le, cop_ge, ofO_some, bop_add, bop_sub, uop_sub, pow18, blt_int, blt_len, blt_abs, blt_list, blt_isi, decide_eq_true_eq, ↓reduceIte, decide_false, decide_true, Bool.false_eq_true, List.length_cons, List.length_nil, Nat.zero_add, Nat.reduceAdd, Nat.reduceLeDiff, Nat.reduceEqDiff, Nat.reduceBEq, List.set_cons_zero, List.set_cons_succ, Nat.reduceLT, Bool.not_true, Bool.not_false, Bool.or_false, Bool.false_or, Bool.and_true, Bool.true_and, beq_self_eq_true, eq_self, ↓ev_seqK, seqK_nx, seqK_rt, seqK_bk, seqK_ct, seqK_ex, tr_bl, Rt_ok, isT_tup, valOf_ex, argsOf_ex, tstOf_ex, flOf_ex, itsOf_ex, pT0, pT1, Int.reduceEq, Int.reduceLT, Int.reduceLE, h1', l6]
  have key := forL_nat (step := fSt G (C2 G fs n) (.tN 3) (.seq (.asg (.tN 4) (.call 1 (.argN 0 (.argN 1 .nilE)))) (.seq (.ifS (.tcp .NotIn (.argN 4 (.argN 2 .nilE))) (.seq (.app 2 (.var 4)) .skip) .skip) .skip)))
    (P := fun j e => ∃ B A z3 z4, e = [Box.sl B, .sh (.int m), .ow (iL A), z3, z4] ∧ B.Ok ∧ A.Nodup ∧ (∀ b ∈ A, 0 ≤ b ∧ b < m) ∧ A.length ≤ j ∧ (0 < j → A ≠ []) ∧ ∀ d, z4 ≠ .ow d) (N := N) (ds := rngL 0 N) (by rw [len_rngL, Int.toNat_natCast])
    (e := [B1.sl, .sh (.int m), .ow (.lst []), y3, y4]) (fun j d e hd ⟨B, A, z3, z4, he, hB, nd, hA, hl, hne, n4⟩ => by
      subst he
      obtain ⟨hj, rfl⟩ := rng_get hd
      obtain ⟨b, B2, h2, d2⟩ := run_take (G := G) (fs := fs) (n := n + 1) hT.e (m := m) hB m0 (by omega)
      have b0 := d2.r0
      have b1 := d2.rm
      show ∃ e', ev G (C2 G fs n) _ [B.sl, .sh (.int m), .ow (iL A), .sh (.int j), z4] = _ ∧ _
      have hlz : (A.map D.int).length < sizeLine := by rw [List.length_map]; exact sz' (by omega)
      by_cases hin : b ∈ A
      · exact ⟨_, by simp only [ev, ↓Res.bind_hide, Res.bindC_ok, Res.bindC_ex, flOf_fl, tstOf_bl, argsOf_args, valOf_val, itsOf_its, List.getElem?_cons_zero, List.getElem?_cons_succ, look_nil, look_vl, look_nm, hand_nil, hand_vl, hand_nm, handM_sh, handM_ow, once_nil, once_vl, once_nm, onceM_sh, onceM_ow, isNm, List.any_nil, List.any_cons, back_nil, back_vl, back_nm, backM_sh, backM_ow, vals_nil, vals_vl, d_sh, d_ow, down_sh, down_ow, Option.bind_some, Option.map_some, pIx_0, pIx_4, ixN_4, cop_eq, cop_ne, cop_gt, cop_lt, cop_le, cop_ge, ofO_some, bop_add, bop_sub, uop_sub, pow18, blt_int, blt_len, blt_abs, blt_list, blt_isi, decide_eq_true_eq, ↓reduceIte, decide_false, decide_true, Bool.false_eq_true, List.length_cons, List.length_nil, Nat.zero_add, Nat.reduceAdd, Nat.reduceLeDiff, Nat.reduceEqDiff, Nat.reduceBEq, List.set_cons_zero, List.set_cons_succ, Nat.reduceLT, Bool.not_true, Bool.not_false, Bool.or_false, Bool.false_or, Bool.and_true, Bool.true_and, beq_self_eq_true, eq_self, ↓ev_seqK, seqK_nx, seqK_rt, seqK_bk, seqK_ct, seqK_ex, tr_bl, Rt_ok, isT_tup, valOf_ex, argsOf_ex, tstOf_ex, flOf_ex, itsOf_ex, pT0, pT1, Int.reduceEq, Int.reduceLT, Int.reduceLE, h2, notin_ints, hin] <;> rfl, B2, A, .sh (.int j), .sh (.int b), rfl, d2.ok, nd, hA, by omega, fun _ q => (by rw [q] at hin; cases hin), fun d q => nomatch q⟩
      · refine ⟨_, by simp only [ev, ↓Res.bind_hide, Res.bindC_ok, Res.bindC_ex, flOf_fl, tstOf_bl, argsOf_args, valOf_val, itsOf_its, List.getElem?_cons_zero, List.getElem?_cons_succ, look_nil, look_vl, look_nm, hand_nil, hand_vl, hand_nm, handM_sh, handM_ow, once_nil, once_vl, once_nm, onceM_sh, onceM_ow, isNm, List.any_nil, List.any_cons, back_nil, back_vl, back_nm, backM_sh, backM_ow, vals_nil, vals_vl, d_sh, d_ow, down_sh, down_ow, Option.bind_some, Option.map_some, pIx_0, pIx_4, ixN_4, cop_eq, cop_ne, cop_gt, cop_lt, cop_le, cop_ge, ofO_some, bop_add, bop_sub, uop_sub, pow18, blt_int, blt_len, blt_abs, blt_list, blt_isi, decide_eq_true_eq, ↓reduceIte, decide_false, decide_true, Bool.false_eq_true, List.length_cons, List.length_nil, Nat.zero_add, Nat.reduceAdd, Nat.reduceLeDiff, Nat.reduceEqDiff, Nat.reduceBEq, List.set_cons_zero, List.set_cons_succ, Nat.reduceLT, Bool.not_true, Bool.not_false, Bool.or_false, Bool.false_or, Bool.and_true, Bool.true_and, beq_self_eq_true, eq_self, ↓ev_seqK, seqK_nx, seqK_rt, seqK_bk, seqK_ct, seqK_ex, tr_bl, Rt_ok, isT_tup, valOf_ex, argsOf_ex, tstOf_ex, flOf_ex, itsOf_ex, pT0, pT1, Int.reduceEq, Int.reduceLT, Int.reduceLE, h2, notin_ints, hin, hlz] <;> rfl, B2, A ++ [b], .sh (.int j), .sh (.int b), ?_, d2.ok, ?_, fun x hx => ?_, by rw [List.length_append]; exact Nat.add_le_add_right hl 1, fun _ q => by simp at q, fun d q => nomatch q⟩
        · show _ = [B2.sl, .sh (.int m), .ow (.lst ((A ++ [b]).map .int)), .sh (.int j), .sh (.int b)]
          rw [List.map_append]
          rfl
        · rw [List.nodup_append]
          exact ⟨nd, by simp, fun x hx y hy => by
            rw [List.mem_singleton] at hy
            subst hy
            exact fun q => hin (q ▸ hx)⟩
        · rcases List.mem_append.mp hx with hx | hx
          · exact hA x hx
          · rw [List.mem_singleton] at hx
            subst hx
            exact ⟨b0, b1⟩) ⟨B1, [], y3, y4, rfl, ok1, List.nodup_nil, nofun, Nat.le_refl 0, fun h => absurd h (by omega), h4⟩
  obtain ⟨e', k1, B2, A, z3, z4, rfl, ok2, nd, hA, hl, hne, n8⟩ := key
  refine ⟨B2, A, z3, z4, ?_, ok2, nd, hA, by omega, hne (by omega)⟩
  unfold Fn.law_subset.f0
  rw [ev_forS hit]
  exact k1
theorem run_subset {m : Int} (m0 : 0 < m) (m1 : m ≤ 1000) {B : Box} (hB : B.Ok) :
    ∃ A B', run G fs (n + 1 + 1 + 1) 25 [B.sl, .sh (.int m)] = .ok (.sh (iT A), [Box.sl B', .sh (.int m)]) ∧ Ris m A ∧ A.length ≤ 3 ∧ B'.Ok := by
  obtain ⟨B', A, z3, z4, h1, ok, nd, hA, hl, hne⟩ := sub_f0 (G := G) (fs := fs) (n := n) m0 m1 hB (y3 := .un) (y4 := .un) nofun
  have l0 : 0 ≤ sizeLine := sz (by decide)
  have hs := sorted_ints (ns := A) (by omega)
  refine ⟨isort A, B', run_rt (F := Fn.law_subset) (e := [B'.sl, .sh (.int m), .ow (iL A), z3, z4]) rfl ?_ rfl, ⟨isort_lt nd, fun h => hne ?_, fun x hx => hA x (mem_isort.mp hx)⟩, by rw [len_isort]; exact hl, ok⟩
  · show ev G (C2 G fs n) Fn.law_subset.b [B.sl, .sh (.int m), .un, .un, .un] = _
    unfold Fn.law_subset.b Fn.law_subset.s0 Fn.law_subset.s1 Fn.law_subset.s2
    simp only [ev, ↓Res.bind_hide, Res.bindC_ok, Res.bindC_ex, flOf_fl, tstOf_bl, argsOf_args, valOf_val, itsOf_its, List.getElem?_cons_zero, List.getElem?_cons_succ, look_nil, look_vl, look_nm, hand_nil, hand_vl, hand_nm, handM_sh, handM_ow, once_nil, once_vl, once_nm, onceM_sh, onceM_ow, isNm, List.any_nil, List.any_cons, back_nil, back_vl, back_nm, backM_sh, backM_ow, vals_nil, vals_vl, d_sh, d_ow, down_sh, down_ow, Option.bind_some, Option.map_some, pIx_0, pIx_4, ixN_4, cop_eq, cop_ne, cop_gt, cop_lt, cop_le, cop_ge, ofO_some, bop_add, bop_sub, uop_sub, pow18, blt_int, blt_len, blt_abs, blt_list, blt_isi, decide_eq_true_eq, ↓reduceIte, decide_false, decide_true, Bool.false_eq_true, List.length_cons, List.length_nil, Nat.zero_add, Nat.reduceAdd, Nat.reduceLeDiff, Nat.reduceEqDiff, Nat.reduceBEq, List.set_cons_zero, List.set_cons_succ, Nat.reduceLT, Bool.not_true, Bool.not_false, Bool.or_false, Bool.false_or, Bool.and_true, Bool.true_and, beq_self_eq_true, eq_self, ↓ev_seqK, seqK_nx, seqK_rt, seqK_bk, seqK_ct, seqK_ex, tr_bl, Rt_ok, isT_tup, valOf_ex, argsOf_ex, tstOf_ex, flOf_ex, itsOf_ex, pT0, pT1, Int.reduceEq, Int.reduceLT, Int.reduceLE, l0, h1, hs, blt_tupL]
  · have := len_isort (l := A)
    rw [h] at this
    exact List.eq_nil_of_length_eq_zero this.symm
/-- a comprehension whose turns each give a value and may change a state -/
theorem lcL_st {step : D → Env → R} {P : List D → Env → Prop} : ∀ {ds acc : List D} {e : Env}, (∀ d acc e, P acc e → ∃ y e', step d e = .ok (.opt (some y), e') ∧ P (acc ++ [y]) e') → P acc e → ∃ ys e', lcL step ds e = .ok (ys, e') ∧ P (acc ++ ys) e' ∧ ys.length = ds.length
  | [], acc, e, _, p => ⟨[], e, rfl, by rw [List.append_nil]; exact p, rfl⟩
  | d :: ds, acc, e, h, p => by
    obtain ⟨y, e1, h1, p1⟩ := h d acc e p
    obtain ⟨ys, e2, h2, p2, l2⟩ := lcL_st (ds := ds) h p1
    refine ⟨y :: ys, e2, ?_, by rw [List.append_assoc] at p2; exact p2, by rw [List.length_cons, l2, List.length_cons]⟩
    rw [lcL, h1]
    simp only [h2, Res.bind_ok]
    rfl
variable [Has fs 26 Fn.law_system] [Has fs 27 Fn.law_path]
/-- few nexts -/
structure Few (a : List Int) (ss : List (Int × List Int)) : Prop where
  st : a.length ≤ 3
  nx : ∀ p ∈ ss, p.2.length ≤ 3
theorem sys_c0 {c : Int} {most : Sl} {m : Nat} (c0 : 0 < c) (c1 : c ≤ 1000) (m0 : 0 < m) (m1 : m ≤ 1000) {B : Box} (hB : B.Ok) :
    ∃ (B' : Box) (ss : List (Int × List Int)), ev G (C3 G fs n) Fn.law_system.c0 [B.sl, .sh (.int c), most, .sh (.int m), .un, .un] = .ok (.val (.ow (.lst (ss.map stD))), [Box.sl B', .sh (.int c), most, .sh (.int m), .un, .un]) ∧ B'.Ok ∧ ss.length = m ∧ ∀ p ∈ ss, ((0 ≤ p.1 ∧ p.1 < c) ∧ Ris m p.2) ∧ p.2.length ≤ 3 := by
  obtain ⟨mI, hmI⟩ : ∃ mI : Int, mI = (m : Int) := ⟨_, rfl⟩
  have l2 : 2 ≤ sizeLine := sz (by decide)
  have key := lcL_st (step := fun d e1 => match take (.tN 5) d (wipeE e1 [5]) with
      | some e2 => (tstOf (ev G (C3 G fs n) .ifN e2)).bind fun r => if r.1 = true then (valOf (ev G (C3 G fs n) (.tupE (.consE (.call 1 (.argN 0 (.argN 1 .nilE))) (.consE (.call 25 (.argN 0 (.argN 3 .nilE))) .nilE))) r.2)).bind fun s => (ofO s.1.d).bind fun y => .ok (.opt (some y), s.2) else .ok (.opt none, r.2)
      | none => .bad) (P := fun acc e => ∃ (B : Box) (z : Sl) (ss : List (Int × List Int)), e = [Box.sl B, .sh (.int c), most, .sh (.int mI), .un, z] ∧ acc = ss.map stD ∧ B.Ok ∧ ∀ p ∈ ss, ((0 ≤ p.1 ∧ p.1 < c) ∧ Ris mI p.2) ∧ p.2.length ≤ 3) (ds := rngL 0 mI) (acc := []) (e := [B.sl, .sh (.int c), most, .sh (.int mI), .un, .un]) (fun d acc e ⟨B, z, ss, he, ha, hB, hs⟩ => by
      subst he
      obtain ⟨q, B2, h2, d2⟩ := run_take (G := G) (fs := fs) (n := n + 1 + 1) hT.e (m := c) hB c0 (by omega)
      obtain ⟨A, B3, h3, rA, lA, ok3⟩ := run_subset (G := G) (fs := fs) (n := n) (m := mI) (by omega) (by omega) d2.ok
      refine ⟨stD (q, A), [B3.sl, .sh (.int c), most, .sh (.int mI), .un, .sh d], ?_, B3, .sh d, ss ++ [(q, A)], rfl, by rw [List.map_append, ha]; rfl, ok3, fun p hp => ?_⟩
      · show (tstOf (ev G (C3 G fs n) .ifN [B.sl, .sh (.int c), most, .sh (.int mI), .un, .sh d])).bind _ = _
        simp only [ev, ↓Res.bind_hide, Res.bindC_ok, Res.bindC_ex, flOf_fl, tstOf_bl, argsOf_args, valOf_val, itsOf_its, List.getElem?_cons_zero, List.getElem?_cons_succ, look_nil, look_vl, look_nm, hand_nil, hand_vl, hand_nm, handM_sh, handM_ow, once_nil, once_vl, once_nm, onceM_sh, onceM_ow, isNm, List.any_nil, List.any_cons, back_nil, back_vl, back_nm, backM_sh, backM_ow, vals_nil, vals_vl, d_sh, d_ow, down_sh, down_ow, Option.bind_some, Option.map_some, pIx_0, pIx_4, ixN_4, cop_eq, cop_ne, cop_gt, cop_lt, cop_le, cop_ge, ofO_some, bop_add, bop_sub, uop_sub, pow18, blt_int, blt_len, blt_abs, blt_list, blt_isi, decide_eq_true_eq, ↓reduceIte, decide_false, decide_true, Bool.false_eq_true, List.length_cons, List.length_nil, Nat.zero_add, Nat.reduceAdd, Nat.reduceLeDiff, Nat.reduceEqDiff, Nat.reduceBEq, List.set_cons_zero, List.set_cons_succ, Nat.reduceLT, Bool.not_true, Bool.not_false, Bool.or_false, Bool.false_or, Bool.and_true, Bool.true_and, beq_self_eq_true, eq_self, ↓ev_seqK, seqK_nx, seqK_rt, seqK_bk, seqK_ct, seqK_ex, tr_bl, Rt_ok, isT_tup, valOf_ex, argsOf_ex, tstOf_ex, flOf_ex, itsOf_ex, pT0, pT1, Int.reduceEq, Int.reduceLT, Int.reduceLE, h2, h3, l2] <;> rfl
      · rcases List.mem_append.mp hp with hp | hp
        · exact hs p hp
        · rw [List.mem_singleton] at hp
          subst hp
          exact ⟨⟨⟨d2.r0, d2.rm⟩, rA⟩, lA⟩) ⟨B, .un, [], rfl, rfl, hB, nofun⟩
  obtain ⟨ys, e', k1, ⟨B', z, ss, rfl, hy, ok, hs⟩, hl⟩ := key
  rw [List.nil_append] at hy
  subst hy
  have hlen : (ss.map stD).length = m := by rw [hl, len_rngL, hmI, Int.toNat_natCast]
  refine ⟨B', ss, ?_, ok, by rw [List.length_map] at hlen; exact hlen, by rw [← hmI]; exact hs⟩
  have hit : ev G (C3 G fs n) (.itR (.argN 3 .nilE)) [B.sl, .sh (.int c), most, .sh (.int m), .un, .un] = .ok (.its (rngL 0 m), [B.sl, .sh (.int c), most, .sh (.int m), .un, .un]) := itR_arg (i := 3) rfl (inI' (by omega) (by omega))
  unfold Fn.law_system.c0
  rw [ev, hit, ← hmI]
  refine Eq.trans (congrArg (fun r : Res (List D × Env) => r.bind fun p => if p.1.length < sizeLine then Res.ok (Out.val (.ow (.lst p.1)), rest [B.sl, .sh (.int c), most, .sh (.int mI), .un, .un] p.2 [5]) else .bad) k1) ?_
  have hz : (ss.map stD).length < sizeLine := by rw [hlen]; exact sz' (by omega)
  simp only [Res.bind_ok, hz, if_true]
  rfl
theorem run_system {c most : Int} (c0 : 1 ≤ c) (c1 : c ≤ 4) (m0 : 1 ≤ most) (m1 : most ≤ 8) {B : Box} (hB : B.Ok) :
    ∃ a ss B', run G fs (n + 1 + 1 + 1 + 1) 26 [B.sl, .sh (.int c), .sh (.int most)] = .ok (.sh (sysD c a ss), [Box.sl B', .sh (.int c), .sh (.int most)]) ∧ SysOk c a ss ∧ Few a ss ∧ B'.Ok := by
  obtain ⟨r, B1, h1, d1⟩ := run_take (G := G) (fs := fs) (n := n + 1 + 1) hT.e (m := most) hB (by omega) (by omega)
  have r0 := d1.r0
  have rm := d1.rm
  obtain ⟨m, hm⟩ := Int.eq_ofNat_of_zero_le (show 0 ≤ 1 + r by omega)
  obtain ⟨B2, ss, h2, ok2, hl, hs⟩ := sys_c0 (G := G) (fs := fs) (n := n) (c := c) (most := .sh (.int most)) (m := m) (by omega) (by omega) (by omega) (by omega) d1.ok
  obtain ⟨a, B3, h3, ra, la, ok3⟩ := run_subset (G := G) (fs := fs) (n := n) (m := (m : Int)) (by omega) (by omega) ok2
  refine ⟨a, ss, B3, ?_, ⟨c0, c1, by omega, by omega, by rw [hl]; exact ra, fun p hp => by rw [hl]; exact (hs p hp).1⟩, ⟨la, fun p hp => (hs p hp).2⟩, ok3⟩
  obtain ⟨mI, hmI⟩ : ∃ mI : Int, mI = (m : Int) := ⟨_, rfl⟩
  rw [← hmI] at h2 h3 hm
  have l3 : 3 ≤ sizeLine := sz (by decide)
  have hm' : 1 + r = mI := by rw [hm, hmI] <;> rfl
  refine run_rt (F := Fn.law_system) (e := [B3.sl, .sh (.int c), .sh (.int most), .sh (.int mI), .sh (.tup (ss.map stD)), .un]) rfl ?_ rfl
  show ev G (C3 G fs n) Fn.law_system.b [B.sl, .sh (.int c), .sh (.int most), .un, .un, .un] = _
  unfold Fn.law_system.b Fn.law_system.s0 Fn.law_system.s1 Fn.law_system.s2
  simp only [ev, ↓Res.bind_hide, Res.bindC_ok, Res.bindC_ex, flOf_fl, tstOf_bl, argsOf_args, valOf_val, itsOf_its, List.getElem?_cons_zero, List.getElem?_cons_succ, look_nil, look_vl, look_nm, hand_nil, hand_vl, hand_nm, handM_sh, handM_ow, once_nil, once_vl, once_nm, onceM_sh, onceM_ow, isNm, List.any_nil, List.any_cons, back_nil, back_vl, back_nm, backM_sh, backM_ow, vals_nil, vals_vl, d_sh, d_ow, down_sh, down_ow, Option.bind_some, Option.map_some, pIx_0, pIx_4, ixN_4, cop_eq, cop_ne, cop_gt, cop_lt, cop_le, cop_ge, ofO_some, bop_add, bop_sub, uop_sub, pow18, blt_int, blt_len, blt_abs, blt_list, blt_isi, decide_eq_true_eq, ↓reduceIte, decide_false, decide_true, Bool.false_eq_true, List.length_cons, List.length_nil, Nat.zero_add, Nat.reduceAdd, Nat.reduceLeDiff, Nat.reduceEqDiff, Nat.reduceBEq, List.set_cons_zero, List.set_cons_succ, Nat.reduceLT, Bool.not_true, Bool.not_false, Bool.or_false, Bool.false_or, Bool.and_true, Bool.true_and, beq_self_eq_true, eq_self, ↓ev_seqK, seqK_nx, seqK_rt, seqK_bk, seqK_ct, seqK_ex, tr_bl, Rt_ok, isT_tup, valOf_ex, argsOf_ex, tstOf_ex, flOf_ex, itsOf_ex, pT0, pT1, Int.reduceEq, Int.reduceLT, Int.reduceLE, h1, hm', h2, h3, blt_tupL, l3]
/-! a path that is drawn -/
structure PathOk (a : List Int) (ss : List (Int × List Int)) (w : List Int) : Prop where
  ne : w ≠ []
  rg : ∀ x ∈ w, 0 ≤ x ∧ x < ss.length
  st : w.getD 0 0 ∈ a
  up : ∀ j : Nat, j + 1 < w.length → w.getD (j + 1) 0 ∈ nxs ss (w.getD j 0)
theorem PathOk.isP {a : List Int} {ss : List (Int × List Int)} {w : List Int} (h : PathOk a ss w) : isP a ss w = true := by
  unfold RF.isP
  have h1 : w.isEmpty = false := by
    cases w with
    | nil => exact absurd rfl h.ne
    | cons x r => rfl
  have h2 : rngB ss.length w = true := by
    refine List.all_eq_true.mpr fun d hd => ?_
    obtain ⟨x, hx, rfl⟩ := List.mem_map.mp hd
    obtain ⟨u, v⟩ := h.rg x hx
    exact wi_true u (by omega)
  have h3 : (rngL 1 (w.length : Int)).all (stepG ss w) = true := by
    refine List.all_eq_true.mpr fun d hd => ?_
    obtain ⟨j, hj, rfl⟩ := rng1 hd
    show decide (w.getD ((j : Int) + 1).toNat 0 ∈ nxs ss (w.getD ((j : Int) + 1 - 1).toNat 0)) = true
    rw [show ((j : Int) + 1).toNat = j + 1 by omega, show ((j : Int) + 1 - 1).toNat = j by omega]
    exact decide_eq_true (h.up j hj)
  rw [h1, h2, h3, decide_eq_true h.st]
  rfl
theorem getD_app {w : List Int} {x : Int} {j : Nat} (h : j < w.length) : (w ++ [x]).getD j 0 = w.getD j 0 := by
  rw [List.getD_eq_getElem?_getD, List.getD_eq_getElem?_getD, List.getElem?_append_left h]
theorem getD_end {w : List Int} {x : Int} : (w ++ [x]).getD w.length 0 = x := by
  rw [List.getD_eq_getElem?_getD, List.getElem?_append_right (Nat.le_refl _), Nat.sub_self]
  rfl
theorem PathOk.snoc {a : List Int} {ss : List (Int × List Int)} {w : List Int} {x : Int} {j : Nat} (h : PathOk a ss w) (hj : w.length = j + 1) (hx : x ∈ nxs ss (w.getD j 0)) (hr : 0 ≤ x ∧ x < ss.length) : PathOk a ss (w ++ [x]) := by
  refine ⟨by simp, fun y hy => ?_, by rw [getD_app (by omega)]; exact h.st, fun k hk => ?_⟩
  · rcases List.mem_append.mp hy with hy | hy
    · exact h.rg y hy
    · rw [List.mem_singleton] at hy
      exact hy ▸ hr
  · rw [List.length_append, hj] at hk
    have hk' : k < j + 1 := by simpa using hk
    by_cases e : k = j
    · subst e
      rw [← hj, getD_end, getD_app (by omega)]
      exact hx
    · rw [getD_app (by omega), getD_app (by omega)]
      exact h.up k (by omega)
theorem nxs_ok {c : Int} {a : List Int} {ss : List (Int × List Int)} (h : SysOk c a ss) {i : Int} (h0 : 0 ≤ i) (h1 : i < ss.length) : Ris ss.length (nxs ss i) := by
  have hj : i.toNat < ss.length := by omega
  unfold nxs
  rw [List.getD_eq_getElem?_getD, List.getElem?_eq_getElem hj]
  exact (h.nx _ (List.getElem_mem hj)).2
theorem ix_wL {w : List Int} {j : Nat} {i : Int} (hj : j < w.length) (hi : i = j) : pIx (iL w) (.int i) = some (.sh (.int (w.getD j 0))) := by
  subst hi
  refine pIx_natL ?_
  rw [List.getElem?_map, List.getElem?_eq_getElem hj, List.getD_eq_getElem?_getD, List.getElem?_eq_getElem hj]
  rfl
theorem nx_len {ss : List (Int × List Int)} (hf : ∀ p ∈ ss, p.2.length ≤ 8) {i : Int} : (nxs ss i).length ≤ 8 := by
  unfold nxs
  rw [List.getD_eq_getElem?_getD]
  cases hx : ss[i.toNat]? with
  | none => exact Nat.zero_le _
  | some p => exact hf p (List.mem_of_getElem? hx)
theorem pth_f0 {c : Int} {a : List Int} {ss : List (Int × List Int)} (h : SysOk c a ss) (hf : ∀ p ∈ ss, p.2.length ≤ 8) {N : Nat} (hN : N ≤ 1000) {x : Int} (hx : x ∈ a) {B : Box} (hB : B.Ok) {y4 : Sl} :
    ∃ B' w z, ev G (C2 G fs n) Fn.law_path.f0 [B.sl, .sh (sysD c a ss), .sh (.int ((N : Int) + 1)), .ow (iL [x]), y4] = .ok (.fl .nx, [Box.sl B', .sh (sysD c a ss), .sh (.int ((N : Int) + 1)), .ow (iL w), z]) ∧ B'.Ok ∧ PathOk a ss w ∧ w.length = N + 1 := by
  have hx' := h.st.rg x hx
  obtain ⟨L, hL⟩ : ∃ L : Int, L = (N : Int) + 1 := ⟨_, rfl⟩
  have key := forL_nat (step := fSt G (C2 G fs n) (.tN 4) (.seq (.app 3 (.call 2 (.argN 0 (.consE (.ixe (.consE (.ixe (.consE (.ixe (.argN 1 (.consE (.cI 2) .nilE))) (.consE (.ixe (.argN 3 (.argN 4 .nilE))) .nilE))) (.consE (.cI 1) .nilE))) .nilE)))) .skip))
    (P := fun j e => ∃ (B : Box) (w : List Int) (z : Sl), e = [B.sl, .sh (sysD c a ss), .sh (.int L), .ow (iL w), z] ∧ B.Ok ∧ PathOk a ss w ∧ w.length = j + 1) (N := N) (ds := rngL 0 N) (by rw [len_rngL, Int.toNat_natCast])
    (e := [B.sl, .sh (sysD c a ss), .sh (.int L), .ow (iL [x]), y4]) (fun j d e hd ⟨B, w, z, he, hB, hp, hl⟩ => by
      subst he
      obtain ⟨hj, rfl⟩ := rng_get hd
      have hu : 0 ≤ w.getD j 0 ∧ w.getD j 0 < ss.length := by
        have hx : w[j]? = some w[j] := List.getElem?_eq_getElem (by omega)
        rw [List.getD_eq_getElem?_getD, hx]
        exact hp.rg _ (List.getElem_mem _)
      have x1 := ix_wL (w := w) (j := j) (i := (j : Int)) (by omega) rfl
      obtain ⟨q, x2⟩ := ix_s (ss := ss) hu.1 hu.2
      have hr := nxs_ok h hu.1 hu.2
      obtain ⟨y, B2, h2, hy, ok2⟩ := run_pickT (G := G) (fs := fs) (n := n) (w := nxs ss (w.getD j 0)) hB hr.ne (Nat.lt_of_le_of_lt (nx_len hf) (by decide))
      have i2 : pIx (sysD c a ss) (.int 2) = some (.sh (.tup (ss.map stD))) := rfl
      have i1 : pIx (.tup [.int q, iT (nxs ss (w.getD j 0))]) (.int 1) = some (.sh (iT (nxs ss (w.getD j 0)))) := rfl
      have hlz : (w.map D.int).length < sizeLine := by rw [List.length_map]; exact sz' (by omega)
      refine ⟨[B2.sl, .sh (sysD c a ss), .sh (.int L), .ow (iL (w ++ [y])), .sh (.int j)], ?_, B2, w ++ [y], _, rfl, ok2, hp.snoc hl hy (hr.rg y hy), by rw [List.length_append, hl]; rfl⟩
      show ev G (C2 G fs n) _ [B.sl, .sh (sysD c a ss), .sh (.int L), .ow (iL w), .sh (.int j)] = .ok (.fl .nx, [B2.sl, .sh (sysD c a ss), .sh (.int L), .ow (.lst ((w ++ [y]).map .int)), .sh (.int j)])
      rw [List.map_append]
      generalize nxs ss (w.getD j 0) = Nn at x2 h2 i1
      generalize w.getD j 0 = u at x1 x2
      generalize sysD c a ss = S at i2 ⊢
      generalize D.tup (ss.map stD) = T at i2 x2
      generalize D.tup [.int q, iT Nn] = Q at i1 x2
      generalize iT Nn = M at i1 h2
      simp only [ev, ↓Res.bind_hide, Res.bindC_ok, Res.bindC_ex, flOf_fl, tstOf_bl, argsOf_args, valOf_val, itsOf_its, List.getElem?_cons_zero, List.getElem?_cons_succ, look_nil, look_vl, look_nm, hand_nil, hand_vl, hand_nm, handM_sh, handM_ow, once_nil, once_vl, once_nm, onceM_sh, onceM_ow, isNm, List.any_nil, List.any_cons, back_nil, back_vl, back_nm, backM_sh, backM_ow, vals_nil, vals_vl, d_sh, d_ow, down_sh, down_ow, Option.bind_some, Option.map_some, pIx_0, pIx_4, ixN_4, cop_eq, cop_ne, cop_gt, cop_lt, cop_le, cop_ge, ofO_some, bop_add, bop_sub, uop_sub, pow18, blt_int, blt_len, blt_abs, blt_list, blt_isi, decide_eq_true_eq, ↓reduceIte, decide_false, decide_true, Bool.false_eq_true, List.length_cons, List.length_nil, Nat.zero_add, Nat.reduceAdd, Nat.reduceLeDiff, Nat.reduceEqDiff, Nat.reduceBEq, List.set_cons_zero, List.set_cons_succ, Nat.reduceLT, Bool.not_true, Bool.not_false, Bool.or_false, Bool.false_or, Bool.and_true, Bool.true_and, beq_self_eq_true, eq_self, ↓ev_seqK, seqK_nx, seqK_rt, seqK_bk, seqK_ct, seqK_ex, tr_bl, Rt_ok, isT_tup, valOf_ex, argsOf_ex, tstOf_ex, flOf_ex, itsOf_ex, pT0, pT1, Int.reduceEq, Int.reduceLT, Int.reduceLE, x1, x2, i1, i2, h2, hlz] <;> rfl) ⟨B, [x], y4, rfl, hB, ⟨by simp, fun y hy => by rw [List.mem_singleton] at hy; exact hy ▸ hx', hx, fun j hj => absurd hj (by simp)⟩, rfl⟩
  obtain ⟨e', k1, B2, w, z, rfl, ok2, hp, hl⟩ := key
  refine ⟨B2, w, z, ?_, ok2, hp, hl⟩
  have hit : ev G (C2 G fs n) (.itR (.consE (.bop .Sub (.argN 2 (.consE (.cI 1) .nilE))) .nilE)) [B.sl, .sh (sysD c a ss), .sh (.int L), .ow (iL [x]), y4] = .ok (.its (rngL 0 N), [B.sl, .sh (sysD c a ss), .sh (.int L), .ow (iL [x]), y4]) := by
    refine itR_val ?_ (inI' (by omega) (by omega))
    have hs : L - 1 = (N : Int) := by omega
    simp only [ev, ↓Res.bind_hide, Res.bindC_ok, Res.bindC_ex, flOf_fl, tstOf_bl, argsOf_args, valOf_val, itsOf_its, List.getElem?_cons_zero, List.getElem?_cons_succ, look_nil, look_vl, look_nm, hand_nil, hand_vl, hand_nm, handM_sh, handM_ow, once_nil, once_vl, once_nm, onceM_sh, onceM_ow, isNm, List.any_nil, List.any_cons, back_nil, back_vl, back_nm, backM_sh, backM_ow, vals_nil, vals_vl, d_sh, d_ow, down_sh, down_ow, Option.bind_some, Option.map_some, pIx_0, pIx_4, ixN_4, cop_eq, cop_ne, cop_gt, cop_lt, cop_le, cop_ge, ofO_some, bop_add, bop_sub, uop_sub, pow18, blt_int, blt_len, blt_abs, blt_list, blt_isi, decide_eq_true_eq, ↓reduceIte, decide_false, decide_true, Bool.false_eq_true, List.length_cons, List.length_nil, Nat.zero_add, Nat.reduceAdd, Nat.reduceLeDiff, Nat.reduceEqDiff, Nat.reduceBEq, List.set_cons_zero, List.set_cons_succ, Nat.reduceLT, Bool.not_true, Bool.not_false, Bool.or_false, Bool.false_or, Bool.and_true, Bool.true_and, beq_self_eq_true, eq_self, ↓ev_seqK, seqK_nx, seqK_rt, seqK_bk, seqK_ct, seqK_ex, tr_bl, Rt_ok, isT_tup, valOf_ex, argsOf_ex, tstOf_ex, flOf_ex, itsOf_ex, pT0, pT1, Int.reduceEq, Int.reduceLT, Int.reduceLE, hs]
  rw [← hL]
  unfold Fn.law_path.f0
  rw [ev_forS hit]
  exact k1
theorem run_law_path {c : Int} {a : List Int} {ss : List (Int × List Int)} (h : SysOk c a ss) (ha : a.length ≤ 8) (hf : ∀ p ∈ ss, p.2.length ≤ 8) {N : Nat} (hN : N ≤ 1000) {B : Box} (hB : B.Ok) :
    ∃ w B', run G fs (n + 1 + 1 + 1) 27 [B.sl, .sh (sysD c a ss), .sh (.int ((N : Int) + 1))] = .ok (.sh (iT w), [Box.sl B', .sh (sysD c a ss), .sh (.int ((N : Int) + 1))]) ∧ PathOk a ss w ∧ w.length = N + 1 ∧ B'.Ok := by
  obtain ⟨x, B1, h1, hx, ok1⟩ := run_pickT (G := G) (fs := fs) (n := n) (w := a) hB h.st.ne (by omega)
  obtain ⟨B2, w, z, h2, ok2, hp, hl⟩ := pth_f0 (G := G) (fs := fs) (n := n) h hf hN hx ok1 (y4 := .un)
  refine ⟨w, B2, run_rt (F := Fn.law_path) (e := [B2.sl, .sh (sysD c a ss), .sh (.int ((N : Int) + 1)), .ow (iL w), z]) rfl ?_ rfl, hp, hl, ok2⟩
  show ev G (C2 G fs n) Fn.law_path.b [B.sl, .sh (sysD c a ss), .sh (.int ((N : Int) + 1)), .un, .un] = _
  have i1 : pIx (sysD c a ss) (.int 1) = some (.sh (iT a)) := rfl
  have l1 : 1 ≤ sizeLine := sz (by decide)
  have h2' : ev G (C2 G fs n) Fn.law_path.f0 [B1.sl, .sh (sysD c a ss), .sh (.int ((N : Int) + 1)), .ow (.lst [.int x]), .un] = .ok (.fl .nx, [Box.sl B2, .sh (sysD c a ss), .sh (.int ((N : Int) + 1)), .ow (iL w), z]) := h2
  generalize iT a = A at i1 h1
  generalize sysD c a ss = S at i1 h2' ⊢
  unfold Fn.law_path.b Fn.law_path.s0 Fn.law_path.s1 Fn.law_path.s2
  simp only [ev, ↓Res.bind_hide, Res.bindC_ok, Res.bindC_ex, flOf_fl, tstOf_bl, argsOf_args, valOf_val, itsOf_its, List.getElem?_cons_zero, List.getElem?_cons_succ, look_nil, look_vl, look_nm, hand_nil, hand_vl, hand_nm, handM_sh, handM_ow, once_nil, once_vl, once_nm, onceM_sh, onceM_ow, isNm, List.any_nil, List.any_cons, back_nil, back_vl, back_nm, backM_sh, backM_ow, vals_nil, vals_vl, d_sh, d_ow, down_sh, down_ow, Option.bind_some, Option.map_some, pIx_0, pIx_4, ixN_4, cop_eq, cop_ne, cop_gt, cop_lt, cop_le, cop_ge, ofO_some, bop_add, bop_sub, uop_sub, pow18, blt_int, blt_len, blt_abs, blt_list, blt_isi, decide_eq_true_eq, ↓reduceIte, decide_false, decide_true, Bool.false_eq_true, List.length_cons, List.length_nil, Nat.zero_add, Nat.reduceAdd, Nat.reduceLeDiff, Nat.reduceEqDiff, Nat.reduceBEq, List.set_cons_zero, List.set_cons_succ, Nat.reduceLT, Bool.not_true, Bool.not_false, Bool.or_false, Bool.false_or, Bool.and_true, Bool.true_and, beq_self_eq_true, eq_self, ↓ev_seqK, seqK_nx, seqK_rt, seqK_bk, seqK_ct, seqK_ex, tr_bl, Rt_ok, isT_tup, valOf_ex, argsOf_ex, tstOf_ex, flOf_ex, itsOf_ex, pT0, pT1, Int.reduceEq, Int.reduceLT, Int.reduceLE, i1, h1, l1, h2', blt_tupL]
end
end RF


/-! LP4: all paths -/
namespace RF
open PySem PySem.Spec PyProof.Rows L2
/-- paths -/
def Fn.paths.s0 : I := (.exs (.call 22 (.argN 0 .nilE)))
def Fn.paths.c0 : I := (.lc [4] (.tN 4) (.itV (.ixe (.argN 0 (.consE (.cI 1) .nilE)))) .ifN (.tupE (.consE (.var 4) .nilE)))
def Fn.paths.s1 : I := (.asg (.tN 2) Fn.paths.c0)
def Fn.paths.c1 : I := (.lc2 [5, 6] [6] (.tN 5) (.itV (.var 2)) .ifN (.tN 6) (.itV (.ixe (.consE (.ixe (.consE (.ixe (.argN 0 (.consE (.cI 2) .nilE))) (.consE (.ixe (.argN 5 (.consE (.uop .USub (.consE (.cI 1) .nilE)) .nilE))) .nilE))) (.consE (.cI 1) .nilE)))) .ifN (.bop .Add (.argN 5 (.consE (.tupE (.consE (.var 6) .nilE)) .nilE))))
def Fn.paths.f0 : I := (.forS (.tN 3) (.itR (.consE (.bop .Sub (.argN 1 (.consE (.cI 1) .nilE))) .nilE))
  (.seq (.asg (.tN 2) Fn.paths.c1)
  .skip))
def Fn.paths.s2 : I := Fn.paths.f0
def Fn.paths.s3 : I := (.ifS (.tcp .Gt (.consE (.blt .len (.argN 2 .nilE)) (.consE (.glo 7) .nilE)))
  (.seq (.raiseS "TooMuch")
  .skip)
  .skip)
def Fn.paths.s4 : I := (.ret (.mov 2))
def Fn.paths.b : I :=
  (.seq Fn.paths.s0 (.seq Fn.paths.s1 (.seq Fn.paths.s2 (.seq Fn.paths.s3 (.seq Fn.paths.s4 .skip)))))
def Fn.paths : FDef := ⟨2, 7, [true, true], Fn.paths.b⟩
/-- _law_all -/
def Fn.law_all.c0 : I := (.lc [6] (.tN 6) (.itV (.ixe (.argN 0 (.consE (.cI 1) .nilE)))) .ifN (.tupE (.consE (.var 6) .nilE)))
def Fn.law_all.s0 : I := (.asg (.tN 2) Fn.law_all.c0)
def Fn.law_all.f0 : I := (.forS (.tN 6) (.itV (.ixe (.consE (.ixe (.consE (.ixe (.argN 0 (.consE (.cI 2) .nilE))) (.consE (.ixe (.argN 5 (.consE (.bop .Sub (.consE (.blt .len (.argN 5 .nilE)) (.consE (.cI 1) .nilE))) .nilE))) .nilE))) (.consE (.cI 1) .nilE))))
  (.seq (.app 4 (.bop .Add (.argN 5 (.consE (.tupE (.consE (.var 6) .nilE)) .nilE))))
  .skip))
def Fn.law_all.f1 : I := (.forO 2 (.tN 5)
  (.seq Fn.law_all.f0
  .skip))
def Fn.law_all.f2 : I := (.forS (.tN 3) (.itR (.consE (.bop .Sub (.argN 1 (.consE (.cI 1) .nilE))) .nilE))
  (.seq (.asg (.tN 4) (.lstE .nilE))
  (.seq Fn.law_all.f1
  (.seq (.asg (.tN 2) (.var 4))
  .skip))))
def Fn.law_all.s1 : I := Fn.law_all.f2
def Fn.law_all.s2 : I := (.ret (.mov 2))
def Fn.law_all.b : I :=
  (.seq Fn.law_all.s0 (.seq Fn.law_all.s1 (.seq Fn.law_all.s2 .skip)))
def Fn.law_all : FDef := ⟨2, 7, [true, true], Fn.law_all.b⟩
def lstI (p : List Int) : Int := p.getD (p.length - 1) 0
def grow (ss : List (Int × List Int)) (L : List (List Int)) : List (List Int) := L.flatMap fun p => (nxs ss (lstI p)).map fun x => p ++ [x]
/-- all paths of k + 1 states -/
def pth (a : List Int) (ss : List (Int × List Int)) : Nat → List (List Int)
  | 0 => a.map fun x => [x]
  | k + 1 => grow ss (pth a ss k)
theorem lstI_snoc {p : List Int} {x : Int} : lstI (p ++ [x]) = x := by
  unfold lstI
  rw [List.length_append]
  exact getD_end
theorem grow_ok {a : List Int} {ss : List (Int × List Int)} {c : Int} (h : SysOk c a ss) {k : Nat} {L : List (List Int)} (hL : ∀ p ∈ L, PathOk a ss p ∧ p.length = k + 1) : ∀ p ∈ grow ss L, PathOk a ss p ∧ p.length = k + 1 + 1 := fun p hp => by
  unfold grow at hp
  obtain ⟨q, hq, hx0⟩ := List.mem_flatMap.mp hp
  obtain ⟨x, hx, rfl⟩ := List.mem_map.mp hx0
  obtain ⟨hq1, hq2⟩ := hL q hq
  have e : lstI q = q.getD k 0 := by unfold lstI; rw [hq2]; rfl
  rw [e] at hx
  have hu : 0 ≤ q.getD k 0 ∧ q.getD k 0 < ss.length := by
    have hz : q[k]? = some q[k] := List.getElem?_eq_getElem (by omega)
    rw [List.getD_eq_getElem?_getD, hz]
    exact hq1.rg _ (List.getElem_mem _)
  exact ⟨hq1.snoc hq2 hx ((nxs_ok h hu.1 hu.2).rg x hx), by rw [List.length_append, hq2]; rfl⟩
theorem pth_ok {a : List Int} {ss : List (Int × List Int)} {c : Int} (h : SysOk c a ss) : ∀ k, ∀ p ∈ pth a ss k, PathOk a ss p ∧ p.length = k + 1
  | 0, p, hp => by
    obtain ⟨x, hx, rfl⟩ := List.mem_map.mp hp
    have hr := h.st.rg x hx
    exact ⟨⟨by simp, fun y hy => by rw [List.mem_singleton] at hy; exact hy ▸ hr, hx, fun j hj => absurd hj (by simp)⟩, rfl⟩
  | k + 1, p, hp => grow_ok h (pth_ok h k) p hp
theorem grow_len {ss : List (Int × List Int)} {b : Nat} (hf : ∀ p ∈ ss, p.2.length ≤ b) : ∀ L : List (List Int), (grow ss L).length ≤ L.length * b
  | [] => Nat.zero_le _
  | p :: L => by
    have ih := grow_len hf L
    unfold grow at ih ⊢
    rw [List.flatMap_cons, List.length_append, List.length_map, List.length_cons, Nat.succ_mul]
    have : (nxs ss (lstI p)).length ≤ b := by
      unfold nxs
      rw [List.getD_eq_getElem?_getD]
      cases hx : ss[(lstI p).toNat]? with
      | none => exact Nat.zero_le _
      | some q => exact hf q (List.mem_of_getElem? hx)
    omega
theorem pth_len {a : List Int} {ss : List (Int × List Int)} {b : Nat} (ha : a.length ≤ b) (hf : ∀ p ∈ ss, p.2.length ≤ b) : ∀ k, (pth a ss k).length ≤ b ^ (k + 1)
  | 0 => by
    show (a.map _).length ≤ _
    rw [List.length_map, Nat.zero_add, Nat.pow_one]
    exact ha
  | k + 1 => by
    have h1 := grow_len hf (pth a ss k)
    have h2 := Nat.mul_le_mul_right b (pth_len ha hf k)
    rw [Nat.pow_succ]
    exact Nat.le_trans h1 h2
abbrev mat (L : List (List Int)) : D := .lst (L.map iT)
section
variable {G : Sig} {fs : FS} {n : Nat} {C : Nat → List Sl → Res (Sl × List Sl)}
theorem ix_last {p : List Int} (h : p ≠ []) : pIx (iT p) (.int (-1)) = some (.sh (.int (lstI p))) := by
  have h0 : 0 < p.length := by
    cases p with
    | nil => exact absurd rfl h
    | cons x r => exact Nat.succ_pos _
  have hx : p[p.length - 1]? = some p[p.length - 1] := List.getElem?_eq_getElem (by omega)
  show (((ixN (p.map D.int).length (-1)).bind fun j => (p.map D.int)[j]?).map Sl.sh) = _
  have e : ixN (p.map D.int).length (-1) = some (p.length - 1) := by
    rw [List.length_map]
    unfold ixN
    rw [if_neg (by decide), if_pos (by omega)]
    exact congrArg some (by omega)
  rw [e]
  show ((p.map D.int)[p.length - 1]?).map Sl.sh = _
  rw [List.getElem?_map, hx]
  unfold lstI
  rw [List.getD_eq_getElem?_getD, hx]
  rfl
/-- a comprehension of two clauses, its outer turns -/
theorem lcL2_map {step : D → Env → Res (List D × Env)} {P : Env → Prop} {g : D → List D} : ∀ {ds : List D} {e : Env}, (∀ d ∈ ds, ∀ e, P e → ∃ e', step d e = .ok (g d, e') ∧ P e') → P e → ∃ e', lcL2 step ds e = .ok (ds.flatMap g, e') ∧ P e'
  | [], e, _, p => ⟨e, rfl, p⟩
  | d :: ds, e, h, p => by
    obtain ⟨e1, h1, p1⟩ := h d List.mem_cons_self e p
    obtain ⟨e2, h2, p2⟩ := lcL2_map (ds := ds) (fun d hd => h d (List.mem_cons_of_mem _ hd)) p1
    refine ⟨e2, ?_, p2⟩
    rw [lcL2, h1]
    simp only [h2, Res.bind_ok]
    rw [List.flatMap_cons]
def tG1 (p : List Int) : D → Option D
  | .int x => some (iT (p ++ [x]))
  | _ => none
theorem fm_tG1 {p : List Int} : ∀ N : List Int, (N.map D.int).filterMap (tG1 p) = (N.map fun x => p ++ [x]).map iT
  | [] => rfl
  | x :: N => by rw [List.map_cons, List.filterMap_cons_some (show tG1 p (.int x) = some (iT (p ++ [x])) from rfl), fm_tG1 N]; rfl
def intsO : List D → List Int
  | [] => []
  | .int x :: r => x :: intsO r
  | _ :: r => intsO r
theorem intsO_map : ∀ p : List Int, intsO (p.map D.int) = p
  | [] => rfl
  | x :: p => by rw [List.map_cons, intsO, intsO_map p]
def tG2 (ss : List (Int × List Int)) : D → List D
  | .tup ds => ((nxs ss (lstI (intsO ds))).map fun x => intsO ds ++ [x]).map iT
  | _ => []
theorem fm_tG2 {ss : List (Int × List Int)} : ∀ L : List (List Int), (L.map iT).flatMap (tG2 ss) = (grow ss L).map iT
  | [] => rfl
  | p :: L => by
    have ih := fm_tG2 (ss := ss) L
    unfold grow at ih ⊢
    rw [List.map_cons, List.flatMap_cons, ih, List.flatMap_cons, List.map_append]
    have e : tG2 ss (iT p) = ((nxs ss (lstI p)).map fun x => p ++ [x]).map iT := by
      show ((nxs ss (lstI (intsO (p.map D.int)))).map fun x => intsO (p.map D.int) ++ [x]).map iT = _
      rw [intsO_map]
    rw [e]
theorem paths_c1 {c : Int} {a : List Int} {ss : List (Int × List Int)} (h : SysOk c a ss) {L : List (List Int)} (hL : ∀ p ∈ L, p ≠ [] ∧ (0 ≤ lstI p ∧ lstI p < ss.length) ∧ p.length ≤ 1000) (hz : (grow ss L).length < sizeLine) {y1 y3 y4 y5 y6 : Sl} (h5 : ∀ d, y5 ≠ .ow d) (h6 : ∀ d, y6 ≠ .ow d) :
    ev G C Fn.paths.c1 [.sh (sysD c a ss), y1, .ow (mat L), y3, y4, y5, y6] = .ok (.val (.ow (mat (grow ss L))), [.sh (sysD c a ss), y1, .sh (mat L), y3, y4, y5, y6]) := by
  have hit : ev G C (.itV (.var 2)) [.sh (sysD c a ss), y1, .ow (mat L), y3, y4, y5, y6] = .ok (.its (L.map iT), [.sh (sysD c a ss), y1, .sh (mat L), y3, y4, y5, y6]) := by
    have hs : seqOf (mat L) = some (L.map iT) := rfl
    simp only [ev, ↓Res.bind_hide, Res.bindC_ok, Res.bindC_ex, flOf_fl, tstOf_bl, argsOf_args, valOf_val, itsOf_its, List.getElem?_cons_zero, List.getElem?_cons_succ, look_nil, look_vl, look_nm, hand_nil, hand_vl, hand_nm, handM_sh, handM_ow, once_nil, once_vl, once_nm, onceM_sh, onceM_ow, isNm, List.any_nil, List.any_cons, back_nil, back_vl, back_nm, backM_sh, backM_ow, vals_nil, vals_vl, d_sh, d_ow, down_sh, down_ow, Option.bind_some, Option.map_some, pIx_0, pIx_4, ixN_4, cop_eq, cop_ne, cop_gt, cop_lt, cop_le, cop_ge, ofO_some, bop_add, bop_sub, uop_sub, pow18, blt_int, blt_len, blt_abs, blt_list, blt_isi, decide_eq_true_eq, ↓reduceIte, decide_false, decide_true, Bool.false_eq_true, List.length_cons, List.length_nil, Nat.zero_add, Nat.reduceAdd, Nat.reduceLeDiff, Nat.reduceEqDiff, Nat.reduceBEq, List.set_cons_zero, List.set_cons_succ, Nat.reduceLT, Bool.not_true, Bool.not_false, Bool.or_false, Bool.false_or, Bool.and_true, Bool.true_and, beq_self_eq_true, eq_self, ↓ev_seqK, seqK_nx, seqK_rt, seqK_bk, seqK_ct, seqK_ex, tr_bl, Rt_ok, isT_tup, valOf_ex, argsOf_ex, tstOf_ex, flOf_ex, itsOf_ex, pT0, pT1, Int.reduceEq, Int.reduceLT, Int.reduceLE, hs] <;> rfl
  have key := lcL2_map (step := fun d e1 => match take (.tN 5) d (wipeE e1 [5, 6]) with
        | some e2 => (tstOf (ev G C .ifN e2)).bind fun r => if r.1 = true then (itsOf (ev G C (.itV (.ixe (.consE (.ixe (.consE (.ixe (.argN 0 (.consE (.cI 2) .nilE))) (.consE (.ixe (.argN 5 (.consE (.uop .USub (.consE (.cI 1) .nilE)) .nilE))) .nilE))) (.consE (.cI 1) .nilE)))) r.2)).bind fun q1 => lcL (fun d1 e3 => match take (.tN 6) d1 (wipeE e3 [6]) with
            | some e4 => (tstOf (ev G C .ifN e4)).bind fun r1 => if r1.1 = true then (valOf (ev G C (.bop .Add (.argN 5 (.consE (.tupE (.consE (.var 6) .nilE)) .nilE))) r1.2)).bind fun s => (ofO s.1.d).bind fun y => .ok (.opt (some y), s.2) else .ok (.opt none, r1.2)
            | none => .bad) q1.1 q1.2 else .ok ([], r.2)
        | none => .bad) (P := fun e => ∃ z5 z6, e = [.sh (sysD c a ss), y1, .sh (mat L), y3, y4, z5, z6]) (g := tG2 ss) (ds := L.map iT) (e := [.sh (sysD c a ss), y1, .sh (mat L), y3, y4, y5, y6]) (fun d hd e ⟨z5, z6, he⟩ => by
      subst he
      obtain ⟨p, hp, rfl⟩ := List.mem_map.mp hd
      obtain ⟨pne, pr, pl⟩ := hL p hp
      have x1 := ix_last pne
      obtain ⟨q, x2⟩ := ix_s (ss := ss) pr.1 pr.2
      have i2 : pIx (sysD c a ss) (.int 2) = some (.sh (.tup (ss.map stD))) := rfl
      have i1 : pIx (.tup [.int q, iT (nxs ss (lstI p))]) (.int 1) = some (.sh (iT (nxs ss (lstI p)))) := rfl
      have hs : seqOf (iT (nxs ss (lstI p))) = some ((nxs ss (lstI p)).map D.int) := rfl
      have hin : ev G C (.itV (.ixe (.consE (.ixe (.consE (.ixe (.argN 0 (.consE (.cI 2) .nilE))) (.consE (.ixe (.argN 5 (.consE (.uop .USub (.consE (.cI 1) .nilE)) .nilE))) .nilE))) (.consE (.cI 1) .nilE)))) [.sh (sysD c a ss), y1, .sh (mat L), y3, y4, .sh (iT p), .un] = .ok (.its ((nxs ss (lstI p)).map D.int), [.sh (sysD c a ss), y1, .sh (mat L), y3, y4, .sh (iT p), .un]) := by
        generalize nxs ss (lstI p) = NX at hs i1 x2 ⊢
        generalize lstI p = u at x1 x2
        generalize sysD c a ss = S at i2 ⊢
        generalize D.tup (ss.map stD) = T at i2 x2
        generalize D.tup [.int q, iT NX] = Q at i1 x2
        generalize iT p = P at x1 ⊢
        simp only [ev, ↓Res.bind_hide, Res.bindC_ok, Res.bindC_ex, flOf_fl, tstOf_bl, argsOf_args, valOf_val, itsOf_its, List.getElem?_cons_zero, List.getElem?_cons_succ, look_nil, look_vl, look_nm, hand_nil, hand_vl, hand_nm, handM_sh, handM_ow, once_nil, once_vl, once_nm, onceM_sh, onceM_ow, isNm, List.any_nil, List.any_cons, back_nil, back_vl, back_nm, backM_sh, backM_ow, vals_nil, vals_vl, d_sh, d_ow, down_sh, down_ow, Option.bind_some, Option.map_some, pIx_0, pIx_4, ixN_4, cop_eq, cop_ne, cop_gt, cop_lt, cop_le, cop_ge, ofO_some, bop_add, bop_sub, uop_sub, pow18, blt_int, blt_len, blt_abs, blt_list, blt_isi, decide_eq_true_eq, ↓reduceIte, decide_false, decide_true, Bool.false_eq_true, List.length_cons, List.length_nil, Nat.zero_add, Nat.reduceAdd, Nat.reduceLeDiff, Nat.reduceEqDiff, Nat.reduceBEq, List.set_cons_zero, List.set_cons_succ, Nat.reduceLT, Bool.not_true, Bool.not_false, Bool.or_false, Bool.false_or, Bool.and_true, Bool.true_and, beq_self_eq_true, eq_self, ↓ev_seqK, seqK_nx, seqK_rt, seqK_bk, seqK_ct, seqK_ex, tr_bl, Rt_ok, isT_tup, valOf_ex, argsOf_ex, tstOf_ex, flOf_ex, itsOf_ex, pT0, pT1, Int.reduceEq, Int.reduceLT, Int.reduceLE, x1, x2, i1, i2, hs] <;> rfl
      have inner := lcL_map (step := fun d1 e3 => match take (.tN 6) d1 (wipeE e3 [6]) with
            | some e4 => (tstOf (ev G C .ifN e4)).bind fun r1 => if r1.1 = true then (valOf (ev G C (.bop .Add (.argN 5 (.consE (.tupE (.consE (.var 6) .nilE)) .nilE))) r1.2)).bind fun s => (ofO s.1.d).bind fun y => .ok (.opt (some y), s.2) else .ok (.opt none, r1.2)
            | none => .bad) (P := fun e => ∃ z6, e = [.sh (sysD c a ss), y1, .sh (mat L), y3, y4, .sh (iT p), z6]) (g := tG1 p) (ds := (nxs ss (lstI p)).map D.int) (e := [.sh (sysD c a ss), y1, .sh (mat L), y3, y4, .sh (iT p), .un]) (fun d hd e ⟨z6, he⟩ => by
        subst he
        obtain ⟨x, hx, rfl⟩ := List.mem_map.mp hd
        have l1 : 1 ≤ sizeLine := sz (by decide)
        have had : pBop .Add (iT p) (.tup [.int x]) = some (.sh (iT (p ++ [x]))) := by
          rw [add_tup (by rw [List.length_map]; exact sz (by show p.length + 1 ≤ 100000; omega))]
          show some (Sl.sh (.tup (p.map D.int ++ [.int x]))) = some (Sl.sh (.tup ((p ++ [x]).map D.int)))
          rw [List.map_append]; rfl
        refine ⟨[.sh (sysD c a ss), y1, .sh (mat L), y3, y4, .sh (iT p), .sh (.int x)], ?_, _, rfl⟩
        show (tstOf (ev G C .ifN [.sh (sysD c a ss), y1, .sh (mat L), y3, y4, .sh (iT p), .sh (.int x)])).bind _ = Res.ok (Out.opt (some (iT (p ++ [x]))), ([.sh (sysD c a ss), y1, .sh (mat L), y3, y4, .sh (iT p), .sh (.int x)] : Env))
        generalize iT (p ++ [x]) = Y at had ⊢
        generalize iT p = P at had ⊢
        simp only [ev, ↓Res.bind_hide, Res.bindC_ok, Res.bindC_ex, flOf_fl, tstOf_bl, argsOf_args, valOf_val, itsOf_its, List.getElem?_cons_zero, List.getElem?_cons_succ, look_nil, look_vl, look_nm, hand_nil, hand_vl, hand_nm, handM_sh, handM_ow, once_nil, once_vl, once_nm, onceM_sh, onceM_ow, isNm, List.any_nil, List.any_cons, back_nil, back_vl, back_nm, backM_sh, backM_ow, vals_nil, vals_vl, d_sh, d_ow, down_sh, down_ow, Option.bind_some, Option.map_some, pIx_0, pIx_4, ixN_4, cop_eq, cop_ne, cop_gt, cop_lt, cop_le, cop_ge, ofO_some, bop_add, bop_sub, uop_sub, pow18, blt_int, blt_len, blt_abs, blt_list, blt_isi, decide_eq_true_eq, ↓reduceIte, decide_false, decide_true, Bool.false_eq_true, List.length_cons, List.length_nil, Nat.zero_add, Nat.reduceAdd, Nat.reduceLeDiff, Nat.reduceEqDiff, Nat.reduceBEq, List.set_cons_zero, List.set_cons_succ, Nat.reduceLT, Bool.not_true, Bool.not_false, Bool.or_false, Bool.false_or, Bool.and_true, Bool.true_and, beq_self_eq_true, eq_self, ↓ev_seqK, seqK_nx, seqK_rt, seqK_bk, seqK_ct, seqK_ex, tr_bl, Rt_ok, isT_tup, valOf_ex, argsOf_ex, tstOf_ex, flOf_ex, itsOf_ex, pT0, pT1, Int.reduceEq, Int.reduceLT, Int.reduceLE, had, l1] <;> rfl) ⟨.un, rfl⟩
      obtain ⟨e2, k2, z6', rfl⟩ := inner
      refine ⟨[.sh (sysD c a ss), y1, .sh (mat L), y3, y4, .sh (iT p), z6'], ?_, _, _, rfl⟩
      rw [fm_tG1] at k2
      have e3 : tG2 ss (iT p) = ((nxs ss (lstI p)).map fun x => p ++ [x]).map iT := by
        show ((nxs ss (lstI (intsO (p.map D.int)))).map fun x => intsO (p.map D.int) ++ [x]).map iT = _
        rw [intsO_map]
      rw [e3]
      show (tstOf (ev G C .ifN [.sh (sysD c a ss), y1, .sh (mat L), y3, y4, .sh (iT p), .un])).bind _ = _
      have t0 : tstOf (ev G C .ifN [.sh (sysD c a ss), y1, .sh (mat L), y3, y4, .sh (iT p), .un]) = .ok (true, [.sh (sysD c a ss), y1, .sh (mat L), y3, y4, .sh (iT p), .un]) := rfl
      rw [t0]
      simp only [Res.bind_ok, if_true, hin, itsOf_its]
      exact k2) ⟨y5, y6, rfl⟩
  obtain ⟨e', k1, z5, z6, rfl⟩ := key
  rw [fm_tG2] at k1
  have hn : noOw [.sh (sysD c a ss), y1, .sh (mat L), y3, y4, y5, y6] [5, 6] = true := by
    unfold noOw
    cases y5 <;> first | exact absurd rfl (h5 _) | (cases y6 <;> first | exact absurd rfl (h6 _) | rfl)
  unfold Fn.paths.c1
  rw [ev, hit]
  simp only [itsOf_its, Res.bind_ok, hn, if_true]
  refine Eq.trans (congrArg (fun r : Res (List D × Env) => r.bind fun p => if p.1.length < sizeLine then Res.ok (Out.val (.ow (.lst p.1)), rest [.sh (sysD c a ss), y1, .sh (mat L), y3, y4, y5, y6] p.2 [5, 6]) else .bad) k1) ?_
  have hz' : ((grow ss L).map iT).length < sizeLine := by rw [List.length_map]; exact hz
  simp only [Res.bind_ok, hz', if_true]
  rfl
end
end RF


/-! LP5: paths and law_all by run -/
namespace RF
open PySem PySem.Spec PyProof.Rows L2
section
variable {G : Sig} {fs : FS} {n : Nat} {C : Nat → List Sl → Res (Sl × List Sl)}
def oneG : D → Option D
  | .int x => some (iT [x])
  | _ => none
theorem fm_one : ∀ a : List Int, (a.map D.int).filterMap oneG = (a.map fun x => [x]).map iT
  | [] => rfl
  | x :: a => by rw [List.map_cons, List.filterMap_cons_some (show oneG (.int x) = some (iT [x]) from rfl), fm_one a]; rfl
theorem pth_use {a : List Int} {ss : List (Int × List Int)} {c : Int} (h : SysOk c a ss) {k : Nat} (hk : k ≤ 500) : ∀ p ∈ pth a ss k, p ≠ [] ∧ (0 ≤ lstI p ∧ lstI p < ss.length) ∧ p.length ≤ 1000 := fun p hp => by
  obtain ⟨h1, h2⟩ := pth_ok h k p hp
  refine ⟨h1.ne, ?_, by omega⟩
  have hz : p[p.length - 1]? = some p[p.length - 1] := List.getElem?_eq_getElem (by omega)
  unfold lstI
  rw [List.getD_eq_getElem?_getD, hz]
  exact h1.rg _ (List.getElem_mem _)
theorem paths_c0 {S : D} {a : List Int} (ha : a.length ≤ 1000) (i1 : pIx S (.int 1) = some (.sh (iT a))) {y1 y2 y3 y5 y6 : Sl} :
    ev G C Fn.paths.c0 [.sh S, y1, y2, y3, .un, y5, y6] = .ok (.val (.ow (mat (a.map fun x => [x]))), [.sh S, y1, y2, y3, .un, y5, y6]) := by
  have l1 : 1 ≤ sizeLine := sz (by decide)
  have hs : seqOf (iT a) = some (a.map D.int) := rfl
  have hit : ev G C (.itV (.ixe (.argN 0 (.consE (.cI 1) .nilE)))) [.sh S, y1, y2, y3, .un, y5, y6] = .ok (.its (a.map D.int), [.sh S, y1, y2, y3, .un, y5, y6]) := by
    generalize iT a = A at i1 hs
    simp only [ev, ↓Res.bind_hide, Res.bindC_ok, Res.bindC_ex, flOf_fl, tstOf_bl, argsOf_args, valOf_val, itsOf_its, List.getElem?_cons_zero, List.getElem?_cons_succ, look_nil, look_vl, look_nm, hand_nil, hand_vl, hand_nm, handM_sh, handM_ow, once_nil, once_vl, once_nm, onceM_sh, onceM_ow, isNm, List.any_nil, List.any_cons, back_nil, back_vl, back_nm, backM_sh, backM_ow, vals_nil, vals_vl, d_sh, d_ow, down_sh, down_ow, Option.bind_some, Option.map_some, pIx_0, pIx_4, ixN_4, cop_eq, cop_ne, cop_gt, cop_lt, cop_le, cop_ge, ofO_some, bop_add, bop_sub, uop_sub, pow18, blt_int, blt_len, blt_abs, blt_list, blt_isi, decide_eq_true_eq, ↓reduceIte, decide_false, decide_true, Bool.false_eq_true, List.length_cons, List.length_nil, Nat.zero_add, Nat.reduceAdd, Nat.reduceLeDiff, Nat.reduceEqDiff, Nat.reduceBEq, List.set_cons_zero, List.set_cons_succ, Nat.reduceLT, Bool.not_true, Bool.not_false, Bool.or_false, Bool.false_or, Bool.and_true, Bool.true_and, beq_self_eq_true, eq_self, ↓ev_seqK, seqK_nx, seqK_rt, seqK_bk, seqK_ct, seqK_ex, tr_bl, Rt_ok, isT_tup, valOf_ex, argsOf_ex, tstOf_ex, flOf_ex, itsOf_ex, pT0, pT1, Int.reduceEq, Int.reduceLT, Int.reduceLE, i1, hs] <;> rfl
  have q := ev_lc1 (G := G) (call := C) (i := 4) (ifs := .ifN) (x := .tupE (.consE (.var 4) .nilE)) (e := [.sh S, y1, y2, y3, .un, y5, y6]) (s0 := .un) (g := oneG) (ds := a.map D.int) rfl nofun hit (by rw [List.length_map]; exact sz' (by omega)) (fun d hd => by
    obtain ⟨x, _, rfl⟩ := List.mem_map.mp hd
    refine ⟨true, rfl, fun z => (nomatch z), fun _ => ⟨.sh (iT [x]), iT [x], ?_, rfl, rfl⟩⟩
    show ev G C _ [.sh S, y1, y2, y3, .sh (.int x), y5, y6] = .ok (_, [.sh S, y1, y2, y3, .sh (.int x), y5, y6])
    simp only [ev, ↓Res.bind_hide, Res.bindC_ok, Res.bindC_ex, flOf_fl, tstOf_bl, argsOf_args, valOf_val, itsOf_its, List.getElem?_cons_zero, List.getElem?_cons_succ, look_nil, look_vl, look_nm, hand_nil, hand_vl, hand_nm, handM_sh, handM_ow, once_nil, once_vl, once_nm, onceM_sh, onceM_ow, isNm, List.any_nil, List.any_cons, back_nil, back_vl, back_nm, backM_sh, backM_ow, vals_nil, vals_vl, d_sh, d_ow, down_sh, down_ow, Option.bind_some, Option.map_some, pIx_0, pIx_4, ixN_4, cop_eq, cop_ne, cop_gt, cop_lt, cop_le, cop_ge, ofO_some, bop_add, bop_sub, uop_sub, pow18, blt_int, blt_len, blt_abs, blt_list, blt_isi, decide_eq_true_eq, ↓reduceIte, decide_false, decide_true, Bool.false_eq_true, List.length_cons, List.length_nil, Nat.zero_add, Nat.reduceAdd, Nat.reduceLeDiff, Nat.reduceEqDiff, Nat.reduceBEq, List.set_cons_zero, List.set_cons_succ, Nat.reduceLT, Bool.not_true, Bool.not_false, Bool.or_false, Bool.false_or, Bool.and_true, Bool.true_and, beq_self_eq_true, eq_self, ↓ev_seqK, seqK_nx, seqK_rt, seqK_bk, seqK_ct, seqK_ex, tr_bl, Rt_ok, isT_tup, valOf_ex, argsOf_ex, tstOf_ex, flOf_ex, itsOf_ex, pT0, pT1, Int.reduceEq, Int.reduceLT, Int.reduceLE, l1] <;> rfl)
  rw [fm_one] at q
  exact q
section
variable [Has fs 4 Fn.is_whole] [Has fs 5 Fn.is_within] [Has fs 20 Fn.is_rising] [Has fs 21 Fn.is_system] [Has fs 22 Fn.check_system] [Has fs 23 Fn.paths] [h5 : HasC G 5 (.int 4)] [h6 : HasC G 6 (.int 8)] [h7 : HasC G 7 (.int 5000)]
theorem paths_f0 {c : Int} {a : List Int} {ss : List (Int × List Int)} (h : SysOk c a ss) {N : Nat} (hN : N ≤ 100) (hz : ∀ k ≤ N, (pth a ss k).length ≤ 100000) {y3 : Sl} :
    ∃ z, ev G C Fn.paths.f0 [.sh (sysD c a ss), .sh (.int ((N : Int) + 1)), .ow (mat (pth a ss 0)), y3, .un, .un, .un] = .ok (.fl .nx, [.sh (sysD c a ss), .sh (.int ((N : Int) + 1)), .ow (mat (pth a ss N)), z, .un, .un, .un]) := by
  obtain ⟨L, hL⟩ : ∃ L : Int, L = (N : Int) + 1 := ⟨_, rfl⟩
  have key := forL_nat (step := fSt G C (.tN 3) (.seq (.asg (.tN 2) Fn.paths.c1) .skip))
    (P := fun j e => ∃ (z : Sl), e = [.sh (sysD c a ss), .sh (.int L), .ow (mat (pth a ss j)), z, .un, .un, .un]) (N := N) (ds := rngL 0 N) (by rw [len_rngL, Int.toNat_natCast])
    (e := [.sh (sysD c a ss), .sh (.int L), .ow (mat (pth a ss 0)), y3, .un, .un, .un]) (fun j d e hd ⟨z, he⟩ => by
      subst he
      obtain ⟨hj, rfl⟩ := rng_get hd
      have hc := paths_c1 (G := G) (C := C) h (L := pth a ss j) (pth_use h (by omega)) (sz' (hz (j + 1) (by omega))) (y1 := .sh (.int L)) (y3 := .sh (.int j)) (y4 := .un) (y5 := .un) (y6 := .un) nofun nofun
      refine ⟨[.sh (sysD c a ss), .sh (.int L), .ow (mat (pth a ss (j + 1))), .sh (.int j), .un, .un, .un], ?_, .sh (.int j), rfl⟩
      show ev G C _ [.sh (sysD c a ss), .sh (.int L), .ow (mat (pth a ss j)), .sh (.int j), .un, .un, .un] = .ok (.fl .nx, [.sh (sysD c a ss), .sh (.int L), .ow (mat (grow ss (pth a ss j))), .sh (.int j), .un, .un, .un])
      generalize mat (grow ss (pth a ss j)) = M2 at hc ⊢
      generalize mat (pth a ss j) = M1 at hc ⊢
      generalize sysD c a ss = S at hc ⊢
      simp only [ev, ↓Res.bind_hide, Res.bindC_ok, Res.bindC_ex, flOf_fl, tstOf_bl, argsOf_args, valOf_val, itsOf_its, List.getElem?_cons_zero, List.getElem?_cons_succ, look_nil, look_vl, look_nm, hand_nil, hand_vl, hand_nm, handM_sh, handM_ow, once_nil, once_vl, once_nm, onceM_sh, onceM_ow, isNm, List.any_nil, List.any_cons, back_nil, back_vl, back_nm, backM_sh, backM_ow, vals_nil, vals_vl, d_sh, d_ow, down_sh, down_ow, Option.bind_some, Option.map_some, pIx_0, pIx_4, ixN_4, cop_eq, cop_ne, cop_gt, cop_lt, cop_le, cop_ge, ofO_some, bop_add, bop_sub, uop_sub, pow18, blt_int, blt_len, blt_abs, blt_list, blt_isi, decide_eq_true_eq, ↓reduceIte, decide_false, decide_true, Bool.false_eq_true, List.length_cons, List.length_nil, Nat.zero_add, Nat.reduceAdd, Nat.reduceLeDiff, Nat.reduceEqDiff, Nat.reduceBEq, List.set_cons_zero, List.set_cons_succ, Nat.reduceLT, Bool.not_true, Bool.not_false, Bool.or_false, Bool.false_or, Bool.and_true, Bool.true_and, beq_self_eq_true, eq_self, ↓ev_seqK, seqK_nx, seqK_rt, seqK_bk, seqK_ct, seqK_ex, tr_bl, Rt_ok, isT_tup, valOf_ex, argsOf_ex, tstOf_ex, flOf_ex, itsOf_ex, pT0, pT1, Int.reduceEq, Int.reduceLT, Int.reduceLE, hc] <;> rfl) ⟨y3, rfl⟩
  obtain ⟨e', k1, z, rfl⟩ := key
  refine ⟨z, ?_⟩
  have hit : ev G C (.itR (.consE (.bop .Sub (.argN 1 (.consE (.cI 1) .nilE))) .nilE)) [.sh (sysD c a ss), .sh (.int L), .ow (mat (pth a ss 0)), y3, .un, .un, .un] = .ok (.its (rngL 0 N), [.sh (sysD c a ss), .sh (.int L), .ow (mat (pth a ss 0)), y3, .un, .un, .un]) := by
    refine itR_val ?_ (inI' (by omega) (by omega))
    have hs : L - 1 = (N : Int) := by omega
    simp only [ev, ↓Res.bind_hide, Res.bindC_ok, Res.bindC_ex, flOf_fl, tstOf_bl, argsOf_args, valOf_val, itsOf_its, List.getElem?_cons_zero, List.getElem?_cons_succ, look_nil, look_vl, look_nm, hand_nil, hand_vl, hand_nm, handM_sh, handM_ow, once_nil, once_vl, once_nm, onceM_sh, onceM_ow, isNm, List.any_nil, List.any_cons, back_nil, back_vl, back_nm, backM_sh, backM_ow, vals_nil, vals_vl, d_sh, d_ow, down_sh, down_ow, Option.bind_some, Option.map_some, pIx_0, pIx_4, ixN_4, cop_eq, cop_ne, cop_gt, cop_lt, cop_le, cop_ge, ofO_some, bop_add, bop_sub, uop_sub, pow18, blt_int, blt_len, blt_abs, blt_list, blt_isi, decide_eq_true_eq, ↓reduceIte, decide_false, decide_true, Bool.false_eq_true, List.length_cons, List.length_nil, Nat.zero_add, Nat.reduceAdd, Nat.reduceLeDiff, Nat.reduceEqDiff, Nat.reduceBEq, List.set_cons_zero, List.set_cons_succ, Nat.reduceLT, Bool.not_true, Bool.not_false, Bool.or_false, Bool.false_or, Bool.and_true, Bool.true_and, beq_self_eq_true, eq_self, ↓ev_seqK, seqK_nx, seqK_rt, seqK_bk, seqK_ct, seqK_ex, tr_bl, Rt_ok, isT_tup, valOf_ex, argsOf_ex, tstOf_ex, flOf_ex, itsOf_ex, pT0, pT1, Int.reduceEq, Int.reduceLT, Int.reduceLE, hs]
  rw [← hL]
  unfold Fn.paths.f0
  rw [ev_forS hit]
  exact k1
theorem run_paths {c : Int} {a : List Int} {ss : List (Int × List Int)} (h : SysOk c a ss) (ha : a.length ≤ 1000) {N : Nat} (hN : N ≤ 100) (hz : ∀ k ≤ N, (pth a ss k).length ≤ 100000) :
    run G fs (n + 1 + 1 + 1 + 1 + 1 + 1) 23 [.sh (sysD c a ss), .sh (.int ((N : Int) + 1))] = if 5000 < (pth a ss N).length then .ex "TooMuch" else .ok (.ow (mat (pth a ss N)), [.sh (sysD c a ss), .sh (.int ((N : Int) + 1))]) := by
  have h1 := run_check (G := G) (fs := fs) (n := n) h
  have i1 : pIx (sysD c a ss) (.int 1) = some (.sh (iT a)) := rfl
  have hc0 := paths_c0 (G := G) (C := run G fs (n + 1 + 1 + 1 + 1 + 1)) (S := sysD c a ss) ha i1 (y1 := .sh (.int ((N : Int) + 1))) (y2 := .un) (y3 := .un) (y5 := .un) (y6 := .un)
  have hc0' : ev G (run G fs (n + 1 + 1 + 1 + 1 + 1)) Fn.paths.c0 [.sh (sysD c a ss), .sh (.int ((N : Int) + 1)), .un, .un, .un, .un, .un] = .ok (.val (.ow (mat (pth a ss 0))), [.sh (sysD c a ss), .sh (.int ((N : Int) + 1)), .un, .un, .un, .un, .un]) := hc0
  obtain ⟨z, hf⟩ := paths_f0 (G := G) (C := run G fs (n + 1 + 1 + 1 + 1 + 1)) h hN hz (y3 := .un)
  obtain ⟨l, hl⟩ : ∃ l : Int, l = ((pth a ss N).length : Int) := ⟨_, rfl⟩
  have hlen : pBlt .len [mat (pth a ss N)] = some (.sh (.int l)) := by
    show slV (.int (((pth a ss N).map iT).length : Nat)) = _
    rw [List.length_map, hl]; rfl
  by_cases hb : 5000 < (pth a ss N).length
  · rw [if_pos hb]
    refine run_ex (F := Fn.paths) rfl ?_
    show ev G (run G fs (n + 1 + 1 + 1 + 1 + 1)) Fn.paths.b [.sh (sysD c a ss), .sh (.int ((N : Int) + 1)), .un, .un, .un, .un, .un] = _
    have hb' : 5000 < l := by omega
    generalize mat (pth a ss N) = M1 at hf hlen
    generalize mat (pth a ss 0) = M0 at hf hc0'
    generalize sysD c a ss = S at h1 hf hc0' ⊢
    unfold Fn.paths.b Fn.paths.s0 Fn.paths.s1 Fn.paths.s2 Fn.paths.s3 Fn.paths.s4
    simp only [ev, ↓Res.bind_hide, Res.bindC_ok, Res.bindC_ex, flOf_fl, tstOf_bl, argsOf_args, valOf_val, itsOf_its, List.getElem?_cons_zero, List.getElem?_cons_succ, look_nil, look_vl, look_nm, hand_nil, hand_vl, hand_nm, handM_sh, handM_ow, once_nil, once_vl, once_nm, onceM_sh, onceM_ow, isNm, List.any_nil, List.any_cons, back_nil, back_vl, back_nm, backM_sh, backM_ow, vals_nil, vals_vl, d_sh, d_ow, down_sh, down_ow, Option.bind_some, Option.map_some, pIx_0, pIx_4, ixN_4, cop_eq, cop_ne, cop_gt, cop_lt, cop_le, cop_ge, ofO_some, bop_add, bop_sub, uop_sub, pow18, blt_int, blt_len, blt_abs, blt_list, blt_isi, decide_eq_true_eq, ↓reduceIte, decide_false, decide_true, Bool.false_eq_true, List.length_cons, List.length_nil, Nat.zero_add, Nat.reduceAdd, Nat.reduceLeDiff, Nat.reduceEqDiff, Nat.reduceBEq, List.set_cons_zero, List.set_cons_succ, Nat.reduceLT, Bool.not_true, Bool.not_false, Bool.or_false, Bool.false_or, Bool.and_true, Bool.true_and, beq_self_eq_true, eq_self, ↓ev_seqK, seqK_nx, seqK_rt, seqK_bk, seqK_ct, seqK_ex, tr_bl, Rt_ok, isT_tup, valOf_ex, argsOf_ex, tstOf_ex, flOf_ex, itsOf_ex, pT0, pT1, Int.reduceEq, Int.reduceLT, Int.reduceLE, h1, hc0', hf, hlen, h7.e, hb'] <;> rfl
  · rw [if_neg hb]
    refine run_rt (F := Fn.paths) (e := [.sh (sysD c a ss), .sh (.int ((N : Int) + 1)), .mv, z, .un, .un, .un]) rfl ?_ rfl
    show ev G (run G fs (n + 1 + 1 + 1 + 1 + 1)) Fn.paths.b [.sh (sysD c a ss), .sh (.int ((N : Int) + 1)), .un, .un, .un, .un, .un] = _
    have hb' : ¬ 5000 < l := by omega
    generalize mat (pth a ss N) = M1 at hf hlen ⊢
    generalize mat (pth a ss 0) = M0 at hf hc0'
    generalize sysD c a ss = S at h1 hf hc0' ⊢
    unfold Fn.paths.b Fn.paths.s0 Fn.paths.s1 Fn.paths.s2 Fn.paths.s3 Fn.paths.s4
    simp only [ev, ↓Res.bind_hide, Res.bindC_ok, Res.bindC_ex, flOf_fl, tstOf_bl, argsOf_args, valOf_val, itsOf_its, List.getElem?_cons_zero, List.getElem?_cons_succ, look_nil, look_vl, look_nm, hand_nil, hand_vl, hand_nm, handM_sh, handM_ow, once_nil, once_vl, once_nm, onceM_sh, onceM_ow, isNm, List.any_nil, List.any_cons, back_nil, back_vl, back_nm, backM_sh, backM_ow, vals_nil, vals_vl, d_sh, d_ow, down_sh, down_ow, Option.bind_some, Option.map_some, pIx_0, pIx_4, ixN_4, cop_eq, cop_ne, cop_gt, cop_lt, cop_le, cop_ge, ofO_some, bop_add, bop_sub, uop_sub, pow18, blt_int, blt_len, blt_abs, blt_list, blt_isi, decide_eq_true_eq, ↓reduceIte, decide_false, decide_true, Bool.false_eq_true, List.length_cons, List.length_nil, Nat.zero_add, Nat.reduceAdd, Nat.reduceLeDiff, Nat.reduceEqDiff, Nat.reduceBEq, List.set_cons_zero, List.set_cons_succ, Nat.reduceLT, Bool.not_true, Bool.not_false, Bool.or_false, Bool.false_or, Bool.and_true, Bool.true_and, beq_self_eq_true, eq_self, ↓ev_seqK, seqK_nx, seqK_rt, seqK_bk, seqK_ct, seqK_ex, tr_bl, Rt_ok, isT_tup, valOf_ex, argsOf_ex, tstOf_ex, flOf_ex, itsOf_ex, pT0, pT1, Int.reduceEq, Int.reduceLT, Int.reduceLE, h1, hc0', hf, hlen, h7.e, hb'] <;> rfl
end
/-- a loop over an owned list -/
theorem forOL_st {step : D → Env → R} {i : Nat} {ds : List D} {P : Nat → Env → Prop} (hP : ∀ k e, P k e → e[i]? = some (.ow (.lst ds))) (hs : ∀ k d e, ds[k]? = some d → P k e → ∃ e', step d e = .ok (.fl .nx, e') ∧ P (k + 1) e') :
    ∀ (m k : Nat) (e : Env), k ≤ ds.length → ds.length < m + k → P k e → ∃ e', forOL step i m k e = .ok (.fl .nx, e') ∧ P ds.length e'
  | 0, k, e, h0, h1, p => absurd h1 (by omega)
  | m + 1, k, e, h0, h1, p => by
    rw [forOL, hP k e p]
    simp only
    cases hd : ds[k]? with
    | none =>
      have : k = ds.length := by
        rw [List.getElem?_eq_none_iff] at hd
        omega
      exact ⟨e, rfl, this ▸ p⟩
    | some d =>
      obtain ⟨e1, h2, p1⟩ := hs k d e hd p
      simp only [h2]
      have hk := (List.getElem?_eq_some_iff.mp hd).1
      exact forOL_st hP hs m (k + 1) e1 (by omega) (by omega) p1
theorem all_f0 {c : Int} {a : List Int} {ss : List (Int × List Int)} {p : List Int} (pne : p ≠ []) (pr : 0 ≤ lstI p ∧ lstI p < ss.length) (pl : p.length ≤ 1000) {acc : List (List Int)} (hz : acc.length + (nxs ss (lstI p)).length ≤ 100000) {y1 y2 y3 y6 : Sl} :
    ∃ z, ev G C Fn.law_all.f0 [.sh (sysD c a ss), y1, y2, y3, .ow (mat acc), .sh (iT p), y6] = .ok (.fl .nx, [.sh (sysD c a ss), y1, y2, y3, .ow (mat (acc ++ (nxs ss (lstI p)).map fun x => p ++ [x])), .sh (iT p), z]) := by
  obtain ⟨q, x2⟩ := ix_s (ss := ss) pr.1 pr.2
  have i2 : pIx (sysD c a ss) (.int 2) = some (.sh (.tup (ss.map stD))) := rfl
  have i1 : pIx (.tup [.int q, iT (nxs ss (lstI p))]) (.int 1) = some (.sh (iT (nxs ss (lstI p)))) := rfl
  have hs : seqOf (iT (nxs ss (lstI p))) = some ((nxs ss (lstI p)).map D.int) := rfl
  have p0 : 0 < p.length := by
    cases p with
    | nil => exact absurd rfl pne
    | cons x r => exact Nat.succ_pos _
  obtain ⟨Lp, hLp⟩ : ∃ Lp : Int, Lp = (p.length : Int) := ⟨_, rfl⟩
  have hlen : pBlt .len [iT p] = some (.sh (.int Lp)) := by rw [blt_lenT, List.length_map, hLp]
  have x1 : pIx (iT p) (.int (Lp - 1)) = some (.sh (.int (lstI p))) := ix_w (w := p) (j := p.length - 1) (by omega) (by omega)
  have key := forL_nat (step := fSt G C (.tN 6) (.seq (.app 4 (.bop .Add (.argN 5 (.consE (.tupE (.consE (.var 6) .nilE)) .nilE)))) .skip))
    (P := fun j e => ∃ (z : Sl), e = [.sh (sysD c a ss), y1, y2, y3, .ow (mat (acc ++ ((nxs ss (lstI p)).take j).map fun x => p ++ [x])), .sh (iT p), z]) (N := (nxs ss (lstI p)).length) (ds := (nxs ss (lstI p)).map D.int) (by rw [List.length_map])
    (e := [.sh (sysD c a ss), y1, y2, y3, .ow (mat acc), .sh (iT p), y6]) (fun j d e hd ⟨z, he⟩ => by
      subst he
      rw [List.getElem?_map] at hd
      cases hx : (nxs ss (lstI p))[j]? with
      | none => rw [hx] at hd; cases hd
      | some x =>
        rw [hx] at hd
        cases hd
        have l1 : 1 ≤ sizeLine := sz (by decide)
        have hj := (List.getElem?_eq_some_iff.mp hx).1
        have had : pBop .Add (iT p) (.tup [.int x]) = some (.sh (iT (p ++ [x]))) := by
          rw [add_tup (by rw [List.length_map]; exact sz (by show p.length + 1 ≤ 100000; omega))]
          show some (Sl.sh (.tup (p.map D.int ++ [.int x]))) = some (Sl.sh (.tup ((p ++ [x]).map D.int)))
          rw [List.map_append]; rfl
        have ht : (nxs ss (lstI p)).take (j + 1) = (nxs ss (lstI p)).take j ++ [x] := by rw [List.take_add_one, hx]; rfl
        have hlz : ((acc ++ ((nxs ss (lstI p)).take j).map fun x => p ++ [x]).map iT).length < sizeLine := by
          rw [List.length_map, List.length_append, List.length_map, List.length_take]
          exact sz' (by omega)
        refine ⟨[.sh (sysD c a ss), y1, y2, y3, .ow (mat (acc ++ ((nxs ss (lstI p)).take (j + 1)).map fun x => p ++ [x])), .sh (iT p), .sh (.int x)], ?_, .sh (.int x), rfl⟩
        rw [ht, List.map_append, ← List.append_assoc]
        show ev G C _ [.sh (sysD c a ss), y1, y2, y3, .ow (mat (acc ++ ((nxs ss (lstI p)).take j).map fun x => p ++ [x])), .sh (iT p), .sh (.int x)] = .ok (.fl .nx, [.sh (sysD c a ss), y1, y2, y3, .ow (.lst (((acc ++ ((nxs ss (lstI p)).take j).map fun x => p ++ [x]) ++ [p ++ [x]]).map iT)), .sh (iT p), .sh (.int x)])
        rw [List.map_append (l₂ := [p ++ [x]])]
        show ev G C _ [.sh (sysD c a ss), y1, y2, y3, .ow (.lst ((acc ++ ((nxs ss (lstI p)).take j).map fun x => p ++ [x]).map iT)), .sh (iT p), .sh (.int x)] = Res.ok (Out.fl .nx, ([.sh (sysD c a ss), y1, y2, y3, .ow (.lst ((acc ++ ((nxs ss (lstI p)).take j).map fun x => p ++ [x]).map iT ++ [iT (p ++ [x])])), .sh (iT p), .sh (.int x)] : Env))
        generalize (acc ++ ((nxs ss (lstI p)).take j).map fun x => p ++ [x]).map iT = AA at hlz ⊢
        generalize iT (p ++ [x]) = Y at had ⊢
        generalize iT p = Pp at had ⊢
        generalize sysD c a ss = S
        simp only [ev, ↓Res.bind_hide, Res.bindC_ok, Res.bindC_ex, flOf_fl, tstOf_bl, argsOf_args, valOf_val, itsOf_its, List.getElem?_cons_zero, List.getElem?_cons_succ, look_nil, look_vl, look_nm, hand_nil, hand_vl, hand_nm, handM_sh, handM_ow, once_nil, once_vl, once_nm, onceM_sh, onceM_ow, isNm, List.any_nil, List.any_cons, back_nil, back_vl, back_nm, backM_sh, backM_ow, vals_nil, vals_vl, d_sh, d_ow, down_sh, down_ow, Option.bind_some, Option.map_some, pIx_0, pIx_4, ixN_4, cop_eq, cop_ne, cop_gt, cop_lt, cop_le, cop_ge, ofO_some, bop_add, bop_sub, uop_sub, pow18, blt_int, blt_len, blt_abs, blt_list, blt_isi, decide_eq_true_eq, ↓reduceIte, decide_false, decide_true, Bool.false_eq_true, List.length_cons, List.length_nil, Nat.zero_add, Nat.reduceAdd, Nat.reduceLeDiff, Nat.reduceEqDiff, Nat.reduceBEq, List.set_cons_zero, List.set_cons_succ, Nat.reduceLT, Bool.not_true, Bool.not_false, Bool.or_false, Bool.false_or, Bool.and_true, Bool.true_and, beq_self_eq_true, eq_self, ↓ev_seqK, seqK_nx, seqK_rt, seqK_bk, seqK_ct, seqK_ex, tr_bl, Rt_ok, isT_tup, valOf_ex, argsOf_ex, tstOf_ex, flOf_ex, itsOf_ex, pT0, pT1, Int.reduceEq, Int.reduceLT, Int.reduceLE, had, l1, hlz] <;> rfl) ⟨y6, by rw [List.take_zero, List.map_nil, List.append_nil]⟩
  obtain ⟨e', k1, z, rfl⟩ := key
  refine ⟨z, ?_⟩
  rw [List.take_of_length_le (Nat.le_refl _)] at k1
  have hit : ev G C (.itV (.ixe (.consE (.ixe (.consE (.ixe (.argN 0 (.consE (.cI 2) .nilE))) (.consE (.ixe (.argN 5 (.consE (.bop .Sub (.consE (.blt .len (.argN 5 .nilE)) (.consE (.cI 1) .nilE))) .nilE))) .nilE))) (.consE (.cI 1) .nilE)))) [.sh (sysD c a ss), y1, y2, y3, .ow (mat acc), .sh (iT p), y6] = .ok (.its ((nxs ss (lstI p)).map D.int), [.sh (sysD c a ss), y1, y2, y3, .ow (mat acc), .sh (iT p), y6]) := by
    generalize nxs ss (lstI p) = NX at hs i1 x2 ⊢
    generalize lstI p = u at x1 x2
    generalize sysD c a ss = S at i2 ⊢
    generalize D.tup (ss.map stD) = T at i2 x2
    generalize D.tup [.int q, iT NX] = Q at i1 x2
    generalize iT p = Pp at x1 hlen ⊢
    simp only [ev, ↓Res.bind_hide, Res.bindC_ok, Res.bindC_ex, flOf_fl, tstOf_bl, argsOf_args, valOf_val, itsOf_its, List.getElem?_cons_zero, List.getElem?_cons_succ, look_nil, look_vl, look_nm, hand_nil, hand_vl, hand_nm, handM_sh, handM_ow, once_nil, once_vl, once_nm, onceM_sh, onceM_ow, isNm, List.any_nil, List.any_cons, back_nil, back_vl, back_nm, backM_sh, backM_ow, vals_nil, vals_vl, d_sh, d_ow, down_sh, down_ow, Option.bind_some, Option.map_some, pIx_0, pIx_4, ixN_4, cop_eq, cop_ne, cop_gt, cop_lt, cop_le, cop_ge, ofO_some, bop_add, bop_sub, uop_sub, pow18, blt_int, blt_len, blt_abs, blt_list, blt_isi, decide_eq_true_eq, ↓reduceIte, decide_false, decide_true, Bool.false_eq_true, List.length_cons, List.length_nil, Nat.zero_add, Nat.reduceAdd, Nat.reduceLeDiff, Nat.reduceEqDiff, Nat.reduceBEq, List.set_cons_zero, List.set_cons_succ, Nat.reduceLT, Bool.not_true, Bool.not_false, Bool.or_false, Bool.false_or, Bool.and_true, Bool.true_and, beq_self_eq_true, eq_self, ↓ev_seqK, seqK_nx, seqK_rt, seqK_bk, seqK_ct, seqK_ex, tr_bl, Rt_ok, isT_tup, valOf_ex, argsOf_ex, tstOf_ex, flOf_ex, itsOf_ex, pT0, pT1, Int.reduceEq, Int.reduceLT, Int.reduceLE, x1, x2, i1, i2, hs, hlen] <;> rfl
  unfold Fn.law_all.f0
  rw [ev_forS hit]
  exact k1
theorem grow_take {ss : List (Int × List Int)} {L : List (List Int)} {j : Nat} {p : List Int} (h : L[j]? = some p) : grow ss (L.take (j + 1)) = grow ss (L.take j) ++ (nxs ss (lstI p)).map fun x => p ++ [x] := by
  rw [List.take_add_one, h]
  unfold grow
  rw [List.flatMap_append]
  show _ ++ (((nxs ss (lstI p)).map fun x => p ++ [x]) ++ []) = _
  rw [List.append_nil]
theorem grow_mono {ss : List (Int × List Int)} {L : List (List Int)} {j : Nat} : (grow ss (L.take j)).length ≤ (grow ss L).length := by
  have h : grow ss L = grow ss (L.take j) ++ grow ss (L.drop j) := by
    unfold grow
    rw [← List.flatMap_append, List.take_append_drop]
  rw [h, List.length_append]
  omega
/-- one of the two ways a list is held -/
def Held (s : Sl) (d : D) : Prop := s = .ow d ∨ s = .sh d
theorem all_f1 [hlim : LimOk G] {c : Int} {a : List Int} {ss : List (Int × List Int)} {L : List (List Int)} (hL : ∀ p ∈ L, p ≠ [] ∧ (0 ≤ lstI p ∧ lstI p < ss.length) ∧ p.length ≤ 1000) (hz : (grow ss L).length ≤ 90000) (hl : L.length ≤ 90000) {s y1 y3 y5 y6 : Sl} (hs : Held s (mat L)) :
    ∃ z5 z6, ev G C Fn.law_all.f1 [.sh (sysD c a ss), y1, s, y3, .ow (mat []), y5, y6] = .ok (.fl .nx, [.sh (sysD c a ss), y1, s, y3, .ow (mat (grow ss L)), z5, z6]) := by
  have step : ∀ k d e, (L.map iT)[k]? = some d → (∃ z5 z6, e = [.sh (sysD c a ss), y1, s, y3, .ow (mat (grow ss (L.take k))), z5, z6]) → ∃ e', fSt G C (.tN 5) (.seq Fn.law_all.f0 .skip) d e = .ok (.fl .nx, e') ∧ ∃ z5 z6, e' = [.sh (sysD c a ss), y1, s, y3, .ow (mat (grow ss (L.take (k + 1)))), z5, z6] := fun k d e hd ⟨z5, z6, he⟩ => by
    subst he
    rw [List.getElem?_map] at hd
    cases hp : L[k]? with
    | none => rw [hp] at hd; cases hd
    | some p =>
      rw [hp] at hd
      cases hd
      obtain ⟨q1, q2, q3⟩ := hL p (List.mem_of_getElem? hp)
      have hg := grow_take (ss := ss) hp
      have hm := grow_mono (ss := ss) (L := L) (j := k + 1)
      rw [hg, List.length_append, List.length_map] at hm
      obtain ⟨z, h1⟩ := all_f0 (G := G) (C := C) (c := c) (a := a) q1 q2 q3 (acc := grow ss (L.take k)) (by omega) (y1 := y1) (y2 := s) (y3 := y3) (y6 := z6)
      refine ⟨_, ?_, .sh (iT p), z, by rw [hg]⟩
      show ev G C _ [.sh (sysD c a ss), y1, s, y3, .ow (mat (grow ss (L.take k))), .sh (iT p), z6] = _
      generalize mat (grow ss (L.take k) ++ (nxs ss (lstI p)).map fun x => p ++ [x]) = M2 at h1 ⊢
      generalize mat (grow ss (L.take k)) = M1 at h1 ⊢
      generalize iT p = Pp at h1 ⊢
      generalize sysD c a ss = S at h1 ⊢
      simp only [ev, ↓Res.bind_hide, Res.bindC_ok, Res.bindC_ex, flOf_fl, tstOf_bl, argsOf_args, valOf_val, itsOf_its, List.getElem?_cons_zero, List.getElem?_cons_succ, look_nil, look_vl, look_nm, hand_nil, hand_vl, hand_nm, handM_sh, handM_ow, once_nil, once_vl, once_nm, onceM_sh, onceM_ow, isNm, List.any_nil, List.any_cons, back_nil, back_vl, back_nm, backM_sh, backM_ow, vals_nil, vals_vl, d_sh, d_ow, down_sh, down_ow, Option.bind_some, Option.map_some, pIx_0, pIx_4, ixN_4, cop_eq, cop_ne, cop_gt, cop_lt, cop_le, cop_ge, ofO_some, bop_add, bop_sub, uop_sub, pow18, blt_int, blt_len, blt_abs, blt_list, blt_isi, decide_eq_true_eq, ↓reduceIte, decide_false, decide_true, Bool.false_eq_true, List.length_cons, List.length_nil, Nat.zero_add, Nat.reduceAdd, Nat.reduceLeDiff, Nat.reduceEqDiff, Nat.reduceBEq, List.set_cons_zero, List.set_cons_succ, Nat.reduceLT, Bool.not_true, Bool.not_false, Bool.or_false, Bool.false_or, Bool.and_true, Bool.true_and, beq_self_eq_true, eq_self, ↓ev_seqK, seqK_nx, seqK_rt, seqK_bk, seqK_ct, seqK_ex, tr_bl, Rt_ok, isT_tup, valOf_ex, argsOf_ex, tstOf_ex, flOf_ex, itsOf_ex, pT0, pT1, Int.reduceEq, Int.reduceLT, Int.reduceLE, h1] <;> rfl
  have lt : (L.map iT).length = L.length := List.length_map _
  have e0 : mat (grow ss (L.take L.length)) = mat (grow ss L) := by rw [List.take_of_length_le (Nat.le_refl _)]
  have lim : 100000 ≤ G.lim := hlim.e
  rcases hs with rfl | rfl
  · obtain ⟨e', k1, z5, z6, rfl⟩ := forOL_st (i := 2) (ds := L.map iT) (step := fSt G C (.tN 5) (.seq Fn.law_all.f0 .skip)) (P := fun k e => ∃ z5 z6, e = [.sh (sysD c a ss), y1, .ow (mat L), y3, .ow (mat (grow ss (L.take k))), z5, z6]) (fun k e ⟨_, _, q⟩ => by rw [q]; rfl) step G.lim 0 [.sh (sysD c a ss), y1, .ow (mat L), y3, .ow (mat []), y5, y6] (Nat.zero_le _) (by omega) ⟨y5, y6, rfl⟩
    rw [lt, e0] at k1
    refine ⟨z5, z6, ?_⟩
    unfold Fn.law_all.f1
    rw [ev]
    exact k1
  · obtain ⟨e', k1, z5, z6, rfl⟩ := forL_nat (step := fSt G C (.tN 5) (.seq Fn.law_all.f0 .skip)) (P := fun k e => ∃ z5 z6, e = [.sh (sysD c a ss), y1, .sh (mat L), y3, .ow (mat (grow ss (L.take k))), z5, z6]) (N := L.length) (ds := L.map iT) lt (e := [.sh (sysD c a ss), y1, .sh (mat L), y3, .ow (mat []), y5, y6]) step ⟨y5, y6, rfl⟩
    rw [e0] at k1
    refine ⟨z5, z6, ?_⟩
    unfold Fn.law_all.f1
    rw [ev_forSh (i := 2) (ds := L.map iT) rfl rfl]
    exact k1
theorem all_c0 {S : D} {a : List Int} (ha : a.length ≤ 1000) (i1 : pIx S (.int 1) = some (.sh (iT a))) {y1 y2 y3 y4 y5 : Sl} :
    ev G C Fn.law_all.c0 [.sh S, y1, y2, y3, y4, y5, .un] = .ok (.val (.ow (mat (a.map fun x => [x]))), [.sh S, y1, y2, y3, y4, y5, .un]) := by
  have l1 : 1 ≤ sizeLine := sz (by decide)
  have hs : seqOf (iT a) = some (a.map D.int) := rfl
  have hit : ev G C (.itV (.ixe (.argN 0 (.consE (.cI 1) .nilE)))) [.sh S, y1, y2, y3, y4, y5, .un] = .ok (.its (a.map D.int), [.sh S, y1, y2, y3, y4, y5, .un]) := by
    generalize iT a = A at i1 hs
    simp only [ev, ↓Res.bind_hide, Res.bindC_ok, Res.bindC_ex, flOf_fl, tstOf_bl, argsOf_args, valOf_val, itsOf_its, List.getElem?_cons_zero, List.getElem?_cons_succ, look_nil, look_vl, look_nm, hand_nil, hand_vl, hand_nm, handM_sh, handM_ow, once_nil, once_vl, once_nm, onceM_sh, onceM_ow, isNm, List.any_nil, List.any_cons, back_nil, back_vl, back_nm, backM_sh, backM_ow, vals_nil, vals_vl, d_sh, d_ow, down_sh, down_ow, Option.bind_some, Option.map_some, pIx_0, pIx_4, ixN_4, cop_eq, cop_ne, cop_gt, cop_lt, cop_le, cop_ge, ofO_some, bop_add, bop_sub, uop_sub, pow18, blt_int, blt_len, blt_abs, blt_list, blt_isi, decide_eq_true_eq, ↓reduceIte, decide_false, decide_true, Bool.false_eq_true, List.length_cons, List.length_nil, Nat.zero_add, Nat.reduceAdd, Nat.reduceLeDiff, Nat.reduceEqDiff, Nat.reduceBEq, List.set_cons_zero, List.set_cons_succ, Nat.reduceLT, Bool.not_true, Bool.not_false, Bool.or_false, Bool.false_or, Bool.and_true, Bool.true_and, beq_self_eq_true, eq_self, ↓ev_seqK, seqK_nx, seqK_rt, seqK_bk, seqK_ct, seqK_ex, tr_bl, Rt_ok, isT_tup, valOf_ex, argsOf_ex, tstOf_ex, flOf_ex, itsOf_ex, pT0, pT1, Int.reduceEq, Int.reduceLT, Int.reduceLE, i1, hs] <;> rfl
  have q := ev_lc1 (G := G) (call := C) (i := 6) (ifs := .ifN) (x := .tupE (.consE (.var 6) .nilE)) (e := [.sh S, y1, y2, y3, y4, y5, .un]) (s0 := .un) (g := oneG) (ds := a.map D.int) rfl nofun hit (by rw [List.length_map]; exact sz' (by omega)) (fun d hd => by
    obtain ⟨x, _, rfl⟩ := List.mem_map.mp hd
    refine ⟨true, rfl, fun z => (nomatch z), fun _ => ⟨.sh (iT [x]), iT [x], ?_, rfl, rfl⟩⟩
    show ev G C _ [.sh S, y1, y2, y3, y4, y5, .sh (.int x)] = .ok (_, [.sh S, y1, y2, y3, y4, y5, .sh (.int x)])
    simp only [ev, ↓Res.bind_hide, Res.bindC_ok, Res.bindC_ex, flOf_fl, tstOf_bl, argsOf_args, valOf_val, itsOf_its, List.getElem?_cons_zero, List.getElem?_cons_succ, look_nil, look_vl, look_nm, hand_nil, hand_vl, hand_nm, handM_sh, handM_ow, once_nil, once_vl, once_nm, onceM_sh, onceM_ow, isNm, List.any_nil, List.any_cons, back_nil, back_vl, back_nm, backM_sh, backM_ow, vals_nil, vals_vl, d_sh, d_ow, down_sh, down_ow, Option.bind_some, Option.map_some, pIx_0, pIx_4, ixN_4, cop_eq, cop_ne, cop_gt, cop_lt, cop_le, cop_ge, ofO_some, bop_add, bop_sub, uop_sub, pow18, blt_int, blt_len, blt_abs, blt_list, blt_isi, decide_eq_true_eq, ↓reduceIte, decide_false, decide_true, Bool.false_eq_true, List.length_cons, List.length_nil, Nat.zero_add, Nat.reduceAdd, Nat.reduceLeDiff, Nat.reduceEqDiff, Nat.reduceBEq, List.set_cons_zero, List.set_cons_succ, Nat.reduceLT, Bool.not_true, Bool.not_false, Bool.or_false, Bool.false_or, Bool.and_true, Bool.true_and, beq_self_eq_true, eq_self, ↓ev_seqK, seqK_nx, seqK_rt, seqK_bk, seqK_ct, seqK_ex, tr_bl, Rt_ok, isT_tup, valOf_ex, argsOf_ex, tstOf_ex, flOf_ex, itsOf_ex, pT0, pT1, Int.reduceEq, Int.reduceLT, Int.reduceLE, l1] <;> rfl)
  rw [fm_one] at q
  exact q
theorem all_f2 [LimOk G] {c : Int} {a : List Int} {ss : List (Int × List Int)} (h : SysOk c a ss) {N : Nat} (hN : N ≤ 100) (hz : ∀ k ≤ N, (pth a ss k).length ≤ 90000) :
    ∃ s z3 z4 z5 z6, ev G C Fn.law_all.f2 [.sh (sysD c a ss), .sh (.int ((N : Int) + 1)), .ow (mat (pth a ss 0)), .un, .un, .un, .un] = .ok (.fl .nx, [.sh (sysD c a ss), .sh (.int ((N : Int) + 1)), s, z3, z4, z5, z6]) ∧ Held s (mat (pth a ss N)) := by
  obtain ⟨L, hL⟩ : ∃ L : Int, L = (N : Int) + 1 := ⟨_, rfl⟩
  have l0 : 0 ≤ sizeLine := sz (by decide)
  have key := forL_nat (step := fSt G C (.tN 3) (.seq (.asg (.tN 4) (.lstE .nilE)) (.seq Fn.law_all.f1 (.seq (.asg (.tN 2) (.var 4)) .skip))))
    (P := fun j e => ∃ s z3 z4 z5 z6, e = [.sh (sysD c a ss), .sh (.int L), s, z3, z4, z5, z6] ∧ Held s (mat (pth a ss j))) (N := N) (ds := rngL 0 N) (by rw [len_rngL, Int.toNat_natCast])
    (e := [.sh (sysD c a ss), .sh (.int L), .ow (mat (pth a ss 0)), .un, .un, .un, .un]) (fun j d e hd ⟨s, z3, z4, z5, z6, he, hs⟩ => by
      subst he
      obtain ⟨hj, rfl⟩ := rng_get hd
      obtain ⟨w5, w6, h1⟩ := all_f1 (G := G) (C := C) (c := c) (a := a) (ss := ss) (L := pth a ss j) (pth_use h (by omega)) (hz (j + 1) (by omega)) (hz j (by omega)) (y1 := .sh (.int L)) (y3 := .sh (.int j)) (y5 := z5) (y6 := z6) hs
      have h1' : ev G C Fn.law_all.f1 [.sh (sysD c a ss), .sh (.int L), s, .sh (.int j), .ow (.lst []), z5, z6] = .ok (.fl .nx, [.sh (sysD c a ss), .sh (.int L), s, .sh (.int j), .ow (mat (grow ss (pth a ss j))), w5, w6]) := h1
      refine ⟨[.sh (sysD c a ss), .sh (.int L), .sh (mat (pth a ss (j + 1))), .sh (.int j), .sh (mat (pth a ss (j + 1))), w5, w6], ?_, _, _, _, _, _, rfl, .inr rfl⟩
      show ev G C _ [.sh (sysD c a ss), .sh (.int L), s, .sh (.int j), z4, z5, z6] = .ok (.fl .nx, [.sh (sysD c a ss), .sh (.int L), .sh (mat (grow ss (pth a ss j))), .sh (.int j), .sh (mat (grow ss (pth a ss j))), w5, w6])
      generalize mat (grow ss (pth a ss j)) = M2 at h1' ⊢
      generalize sysD c a ss = S at h1' ⊢
      simp only [ev, ↓Res.bind_hide, Res.bindC_ok, Res.bindC_ex, flOf_fl, tstOf_bl, argsOf_args, valOf_val, itsOf_its, List.getElem?_cons_zero, List.getElem?_cons_succ, look_nil, look_vl, look_nm, hand_nil, hand_vl, hand_nm, handM_sh, handM_ow, once_nil, once_vl, once_nm, onceM_sh, onceM_ow, isNm, List.any_nil, List.any_cons, back_nil, back_vl, back_nm, backM_sh, backM_ow, vals_nil, vals_vl, d_sh, d_ow, down_sh, down_ow, Option.bind_some, Option.map_some, pIx_0, pIx_4, ixN_4, cop_eq, cop_ne, cop_gt, cop_lt, cop_le, cop_ge, ofO_some, bop_add, bop_sub, uop_sub, pow18, blt_int, blt_len, blt_abs, blt_list, blt_isi, decide_eq_true_eq, ↓reduceIte, decide_false, decide_true, Bool.false_eq_true, List.length_cons, List.length_nil, Nat.zero_add, Nat.reduceAdd, Nat.reduceLeDiff, Nat.reduceEqDiff, Nat.reduceBEq, List.set_cons_zero, List.set_cons_succ, Nat.reduceLT, Bool.not_true, Bool.not_false, Bool.or_false, Bool.false_or, Bool.and_true, Bool.true_and, beq_self_eq_true, eq_self, ↓ev_seqK, seqK_nx, seqK_rt, seqK_bk, seqK_ct, seqK_ex, tr_bl, Rt_ok, isT_tup, valOf_ex, argsOf_ex, tstOf_ex, flOf_ex, itsOf_ex, pT0, pT1, Int.reduceEq, Int.reduceLT, Int.reduceLE, h1', l0] <;> rfl) ⟨_, _, _, _, _, rfl, .inl rfl⟩
  obtain ⟨e', k1, s, z3, z4, z5, z6, rfl, hs⟩ := key
  refine ⟨s, z3, z4, z5, z6, ?_, hs⟩
  have hit : ev G C (.itR (.consE (.bop .Sub (.argN 1 (.consE (.cI 1) .nilE))) .nilE)) [.sh (sysD c a ss), .sh (.int L), .ow (mat (pth a ss 0)), .un, .un, .un, .un] = .ok (.its (rngL 0 N), [.sh (sysD c a ss), .sh (.int L), .ow (mat (pth a ss 0)), .un, .un, .un, .un]) := by
    refine itR_val ?_ (inI' (by omega) (by omega))
    have hs : L - 1 = (N : Int) := by omega
    simp only [ev, ↓Res.bind_hide, Res.bindC_ok, Res.bindC_ex, flOf_fl, tstOf_bl, argsOf_args, valOf_val, itsOf_its, List.getElem?_cons_zero, List.getElem?_cons_succ, look_nil, look_vl, look_nm, hand_nil, hand_vl, hand_nm, handM_sh, handM_ow, once_nil, once_vl, once_nm, onceM_sh, onceM_ow, isNm, List.any_nil, List.any_cons, back_nil, back_vl, back_nm, backM_sh, backM_ow, vals_nil, vals_vl, d_sh, d_ow, down_sh, down_ow, Option.bind_some, Option.map_some, pIx_0, pIx_4, ixN_4, cop_eq, cop_ne, cop_gt, cop_lt, cop_le, cop_ge, ofO_some, bop_add, bop_sub, uop_sub, pow18, blt_int, blt_len, blt_abs, blt_list, blt_isi, decide_eq_true_eq, ↓reduceIte, decide_false, decide_true, Bool.false_eq_true, List.length_cons, List.length_nil, Nat.zero_add, Nat.reduceAdd, Nat.reduceLeDiff, Nat.reduceEqDiff, Nat.reduceBEq, List.set_cons_zero, List.set_cons_succ, Nat.reduceLT, Bool.not_true, Bool.not_false, Bool.or_false, Bool.false_or, Bool.and_true, Bool.true_and, beq_self_eq_true, eq_self, ↓ev_seqK, seqK_nx, seqK_rt, seqK_bk, seqK_ct, seqK_ex, tr_bl, Rt_ok, isT_tup, valOf_ex, argsOf_ex, tstOf_ex, flOf_ex, itsOf_ex, pT0, pT1, Int.reduceEq, Int.reduceLT, Int.reduceLE, hs]
  rw [← hL]
  unfold Fn.law_all.f2
  rw [ev_forS hit]
  exact k1
theorem run_law_all [LimOk G] [Has fs 28 Fn.law_all] {c : Int} {a : List Int} {ss : List (Int × List Int)} (h : SysOk c a ss) (ha : a.length ≤ 1000) {N : Nat} (hN : N ≤ 100) (hz : ∀ k ≤ N, (pth a ss k).length ≤ 90000) :
    ∃ s, run G fs (n + 1) 28 [.sh (sysD c a ss), .sh (.int ((N : Int) + 1))] = .ok (s, [.sh (sysD c a ss), .sh (.int ((N : Int) + 1))]) ∧ Held s (mat (pth a ss N)) := by
  have i1 : pIx (sysD c a ss) (.int 1) = some (.sh (iT a)) := rfl
  have hc0 := all_c0 (G := G) (C := run G fs n) (S := sysD c a ss) ha i1 (y1 := .sh (.int ((N : Int) + 1))) (y2 := .un) (y3 := .un) (y4 := .un) (y5 := .un)
  have hc0' : ev G (run G fs n) Fn.law_all.c0 [.sh (sysD c a ss), .sh (.int ((N : Int) + 1)), .un, .un, .un, .un, .un] = .ok (.val (.ow (mat (pth a ss 0))), [.sh (sysD c a ss), .sh (.int ((N : Int) + 1)), .un, .un, .un, .un, .un]) := hc0
  obtain ⟨s, z3, z4, z5, z6, hf, hs⟩ := all_f2 (G := G) (C := run G fs n) h hN hz
  refine ⟨s, ?_, hs⟩
  generalize mat (pth a ss N) = M1 at hs
  generalize mat (pth a ss 0) = M0 at hf hc0'
  rcases hs with rfl | rfl
  · refine run_rt (F := Fn.law_all) (e := [.sh (sysD c a ss), .sh (.int ((N : Int) + 1)), .mv, z3, z4, z5, z6]) rfl ?_ rfl
    show ev G (run G fs n) Fn.law_all.b [.sh (sysD c a ss), .sh (.int ((N : Int) + 1)), .un, .un, .un, .un, .un] = _
    generalize sysD c a ss = S at hf hc0' ⊢
    unfold Fn.law_all.b Fn.law_all.s0 Fn.law_all.s1 Fn.law_all.s2
    simp only [ev, ↓Res.bind_hide, Res.bindC_ok, Res.bindC_ex, flOf_fl, tstOf_bl, argsOf_args, valOf_val, itsOf_its, List.getElem?_cons_zero, List.getElem?_cons_succ, look_nil, look_vl, look_nm, hand_nil, hand_vl, hand_nm, handM_sh, handM_ow, once_nil, once_vl, once_nm, onceM_sh, onceM_ow, isNm, List.any_nil, List.any_cons, back_nil, back_vl, back_nm, backM_sh, backM_ow, vals_nil, vals_vl, d_sh, d_ow, down_sh, down_ow, Option.bind_some, Option.map_some, pIx_0, pIx_4, ixN_4, cop_eq, cop_ne, cop_gt, cop_lt, cop_le, cop_ge, ofO_some, bop_add, bop_sub, uop_sub, pow18, blt_int, blt_len, blt_abs, blt_list, blt_isi, decide_eq_true_eq, ↓reduceIte, decide_false, decide_true, Bool.false_eq_true, List.length_cons, List.length_nil, Nat.zero_add, Nat.reduceAdd, Nat.reduceLeDiff, Nat.reduceEqDiff, Nat.reduceBEq, List.set_cons_zero, List.set_cons_succ, Nat.reduceLT, Bool.not_true, Bool.not_false, Bool.or_false, Bool.false_or, Bool.and_true, Bool.true_and, beq_self_eq_true, eq_self, ↓ev_seqK, seqK_nx, seqK_rt, seqK_bk, seqK_ct, seqK_ex, tr_bl, Rt_ok, isT_tup, valOf_ex, argsOf_ex, tstOf_ex, flOf_ex, itsOf_ex, pT0, pT1, Int.reduceEq, Int.reduceLT, Int.reduceLE, hc0', hf] <;> rfl
  · refine run_rt (F := Fn.law_all) (e := [.sh (sysD c a ss), .sh (.int ((N : Int) + 1)), .sh M1, z3, z4, z5, z6]) rfl ?_ rfl
    show ev G (run G fs n) Fn.law_all.b [.sh (sysD c a ss), .sh (.int ((N : Int) + 1)), .un, .un, .un, .un, .un] = _
    generalize sysD c a ss = S at hf hc0' ⊢
    unfold Fn.law_all.b Fn.law_all.s0 Fn.law_all.s1 Fn.law_all.s2
    simp only [ev, ↓Res.bind_hide, Res.bindC_ok, Res.bindC_ex, flOf_fl, tstOf_bl, argsOf_args, valOf_val, itsOf_its, List.getElem?_cons_zero, List.getElem?_cons_succ, look_nil, look_vl, look_nm, hand_nil, hand_vl, hand_nm, handM_sh, handM_ow, once_nil, once_vl, once_nm, onceM_sh, onceM_ow, isNm, List.any_nil, List.any_cons, back_nil, back_vl, back_nm, backM_sh, backM_ow, vals_nil, vals_vl, d_sh, d_ow, down_sh, down_ow, Option.bind_some, Option.map_some, pIx_0, pIx_4, ixN_4, cop_eq, cop_ne, cop_gt, cop_lt, cop_le, cop_ge, ofO_some, bop_add, bop_sub, uop_sub, pow18, blt_int, blt_len, blt_abs, blt_list, blt_isi, decide_eq_true_eq, ↓reduceIte, decide_false, decide_true, Bool.false_eq_true, List.length_cons, List.length_nil, Nat.zero_add, Nat.reduceAdd, Nat.reduceLeDiff, Nat.reduceEqDiff, Nat.reduceBEq, List.set_cons_zero, List.set_cons_succ, Nat.reduceLT, Bool.not_true, Bool.not_false, Bool.or_false, Bool.false_or, Bool.and_true, Bool.true_and, beq_self_eq_true, eq_self, ↓ev_seqK, seqK_nx, seqK_rt, seqK_bk, seqK_ct, seqK_ex, tr_bl, Rt_ok, isT_tup, valOf_ex, argsOf_ex, tstOf_ex, flOf_ex, itsOf_ex, pT0, pT1, Int.reduceEq, Int.reduceLT, Int.reduceLE, hc0', hf] <;> rfl
end
end RF


/-! LP6: repr of paths -/
namespace RF
open PySem PySem.Spec PyProof.Rows L2
section
open PySem.PyData
theorem piled_le {m : Nat} : ∀ {ts : List Str}, (∀ t ∈ ts, t.length ≤ m) → piled ts ≤ ts.length * (m + 2)
  | [], _ => by rw [piled_nil]; exact Nat.zero_le _
  | t :: ts, h => by
    have h1 := piled_le (ts := ts) fun t ht => h t (List.mem_cons_of_mem _ ht)
    have h2 := h t List.mem_cons_self
    rw [List.length_cons, Nat.succ_mul]
    rw [piled_cons]
    omega
theorem tup_text_le {m : Nat} {ts : List Str} (h : ∀ t ∈ ts, t.length ≤ m) : (tupleText ts).length ≤ ts.length * (m + 2) + 3 := by
  have h1 := piled_le h
  unfold tupleText
  rw [strLen_append, strLen_append]
  have e1 : ("(" : Str).length = 1 := rfl
  have e2 : (((if ts.length == 1 then ",)" else ")" : String) : Str)).length ≤ 2 := by
    split
    · exact Nat.le_refl _
    · exact Nat.le_succ _
  by_cases hn : ts = []
  · subst hn
    have : (Str.join ", " []).length = 0 := rfl
    omega
  · have := join_length_add ts hn
    omega
theorem textFrom_le {m : Nat} : ∀ {ts : List Str} {k : Nat} {acc : Str}, (∀ t ∈ ts, t.length ≤ m) → (textFrom k acc ts).length ≤ acc.length + ts.length * (m + 2)
  | [], k, acc, _ => by show acc.length ≤ _; omega
  | t :: ts, k, acc, h => by
    have h2 := h t List.mem_cons_self
    have h1 := textFrom_le (ts := ts) (k := k + 1) (acc := acc ++ (if k > 0 then ", " else "" : String) ++ t) fun t ht => h t (List.mem_cons_of_mem _ ht)
    have e : (((if k > 0 then ", " else "" : String) : Str)).length ≤ 2 := by
      split
      · exact Nat.le_refl _
      · exact Nat.zero_le _
    rw [strLen_append, strLen_append] at h1
    rw [List.length_cons, Nat.succ_mul]
    show (textFrom (k + 1) (acc ++ (if k > 0 then ", " else "" : String) ++ t) ts).length ≤ _
    omega
theorem list_text_le {m : Nat} {ts : List Str} (h : ∀ t ∈ ts, t.length ≤ m) : (listText ts).length ≤ ts.length * (m + 2) + 2 := by
  have h1 := textFrom_le (k := 0) (acc := ("[" : Str)) h
  unfold listText
  rw [strLen_append]
  have e1 : ("[" : Str).length = 1 := rfl
  have e2 : ("]" : Str).length = 1 := rfl
  omega
theorem shownAll_mem : ∀ {xs : List PyData} {t : Str}, t ∈ shownAll xs → ∃ x ∈ xs, t = shown x
  | [], _, h => nomatch h
  | x :: xs, t, h => by
    rcases List.mem_cons.mp h with rfl | h
    · exact ⟨x, List.mem_cons_self, rfl⟩
    · obtain ⟨y, hy, e⟩ := shownAll_mem (xs := xs) h
      exact ⟨y, List.mem_cons_of_mem _ hy, e⟩
theorem shownAll_len : ∀ xs : List PyData, (shownAll xs).length = xs.length
  | [] => rfl
  | x :: xs => by rw [shownAll, List.length_cons, shownAll_len xs, List.length_cons]
theorem pys_len : ∀ xs : List D, (D.pys xs).length = xs.length
  | [] => rfl
  | x :: xs => by rw [D.pys, List.length_cons, pys_len xs, List.length_cons]
theorem pys_mem : ∀ {xs : List D} {y : PyData}, y ∈ D.pys xs → ∃ x ∈ xs, y = x.py
  | [], _, h => nomatch h
  | x :: xs, y, h => by
    rcases List.mem_cons.mp h with rfl | h
    · exact ⟨x, List.mem_cons_self, rfl⟩
    · obtain ⟨z, hz, e⟩ := pys_mem (xs := xs) h
      exact ⟨z, List.mem_cons_of_mem _ hz, e⟩
theorem showAll_of : ∀ {xs : List PyData}, (∀ x ∈ xs, showable x = true) → showableAll xs = true
  | [], _ => rfl
  | x :: xs, h => by
    rw [showableAll, h x List.mem_cons_self, showAll_of fun y hy => h y (List.mem_cons_of_mem _ hy)]
    rfl
theorem small_int {i : Int} (h0 : 0 ≤ i) (h1 : i < 8) : ((D.int i).py.shown).length ≤ 4 ∧ showable (D.int i).py = true := by
  have : i = 0 ∨ i = 1 ∨ i = 2 ∨ i = 3 ∨ i = 4 ∨ i = 5 ∨ i = 6 ∨ i = 7 := by omega
  rcases this with rfl | rfl | rfl | rfl | rfl | rfl | rfl | rfl <;> exact ⟨by decide +kernel, by decide +kernel⟩
/-- a short tuple of small ints -/
def SmT (w : List Int) : Prop := w.length ≤ 1000 ∧ ∀ x ∈ w, 0 ≤ x ∧ x < 8
theorem small_tup {w : List Int} (h : SmT w) : ((iT w).py.shown).length ≤ 6003 ∧ showable (iT w).py = true := by
  have h1 := h.1
  refine ⟨?_, ?_⟩
  · show (tupleText (shownAll (D.pys (w.map D.int)))).length ≤ 6003
    have := tup_text_le (m := 4) (ts := shownAll (D.pys (w.map D.int))) fun t ht => by
      obtain ⟨y, hy, rfl⟩ := shownAll_mem ht
      obtain ⟨d, hd, rfl⟩ := pys_mem hy
      obtain ⟨i, hi, rfl⟩ := List.mem_map.mp hd
      exact (small_int (h.2 i hi).1 (h.2 i hi).2).1
    rw [shownAll_len, pys_len, List.length_map] at this
    omega
  · show showableAll (D.pys (w.map D.int)) = true
    refine showAll_of fun y hy => ?_
    obtain ⟨d, hd, rfl⟩ := pys_mem hy
    obtain ⟨i, hi, rfl⟩ := List.mem_map.mp hd
    exact (small_int (h.2 i hi).1 (h.2 i hi).2).2
theorem ok_app {x y : Str} (hx : strOk x = true) (hy : strOk y = true) : strOk (x ++ y) = true := by
  show (x.cps ++ y.cps).all _ = true
  rw [Array.all_append]
  exact Bool.and_eq_true_iff.mpr ⟨hx, hy⟩
theorem ok_join : ∀ {ts : List Str}, (∀ t ∈ ts, strOk t = true) → strOk (Str.join ", " ts) = true
  | [], _ => by decide +kernel
  | [x], h => h x List.mem_cons_self
  | x :: y :: r, h => by
    show strOk (x ++ (", " : Str) ++ Str.join ", " (y :: r)) = true
    exact ok_app (ok_app (h x List.mem_cons_self) (by decide +kernel)) (ok_join fun t ht => h t (List.mem_cons_of_mem _ ht))
theorem ok_tup {ts : List Str} (h : ∀ t ∈ ts, strOk t = true) : strOk (tupleText ts) = true := by
  unfold tupleText
  refine ok_app (ok_app (by decide +kernel) (ok_join h)) ?_
  split <;> decide +kernel
theorem ok_from : ∀ {ts : List Str} {k : Nat} {acc : Str}, strOk acc = true → (∀ t ∈ ts, strOk t = true) → strOk (textFrom k acc ts) = true
  | [], k, acc, ha, _ => ha
  | t :: ts, k, acc, ha, h => by
    show strOk (textFrom (k + 1) (acc ++ (if k > 0 then ", " else "" : String) ++ t) ts) = true
    refine ok_from (ok_app (ok_app ha ?_) (h t List.mem_cons_self)) fun t ht => h t (List.mem_cons_of_mem _ ht)
    split <;> decide +kernel
theorem ok_list {ts : List Str} (h : ∀ t ∈ ts, strOk t = true) : strOk (listText ts) = true := by
  unfold listText
  exact ok_app (ok_from (by decide +kernel) h) (by decide +kernel)
theorem small_ok {i : Int} (h0 : 0 ≤ i) (h1 : i < 8) : strOk ((D.int i).py.shown) = true := by
  have : i = 0 ∨ i = 1 ∨ i = 2 ∨ i = 3 ∨ i = 4 ∨ i = 5 ∨ i = 6 ∨ i = 7 := by omega
  rcases this with rfl | rfl | rfl | rfl | rfl | rfl | rfl | rfl <;> decide +kernel
theorem mat_strOk {L : List (List Int)} (hl : L.length ≤ 1000) (h : ∀ w ∈ L, SmT w) : strOk (mat L).py.shown = true := by
  show strOk (listText (shownAll (D.pys (L.map iT)))) = true
  refine ok_list fun t ht => ?_
  obtain ⟨y, hy, rfl⟩ := shownAll_mem ht
  obtain ⟨d, hd, rfl⟩ := pys_mem hy
  obtain ⟨w, hw, rfl⟩ := List.mem_map.mp hd
  show strOk (tupleText (shownAll (D.pys (w.map D.int)))) = true
  refine ok_tup fun t ht => ?_
  obtain ⟨y, hy, rfl⟩ := shownAll_mem ht
  obtain ⟨d, hd, rfl⟩ := pys_mem hy
  obtain ⟨i, hi, rfl⟩ := List.mem_map.mp hd
  exact small_ok ((h w hw).2 i hi).1 ((h w hw).2 i hi).2
/-- the text of a list of them -/
theorem repr_mat {L : List (List Int)} (hl : L.length ≤ 1000) (h : ∀ w ∈ L, SmT w) : pRepr (mat L) = some (.sh (.str (mat L).py.shown)) ∧ PyData.strOk (mat L).py.shown = true := by /- repr_str -/
  have hp : (mat L).pl deepest = true := pls_of (n := 39) fun d hd => by
    obtain ⟨w, _, rfl⟩ := List.mem_map.mp hd
    exact pls_ints (n := 38) w
  have hs : (mat L).py.showable = true := by
    show showableAll (D.pys (L.map iT)) = true
    refine showAll_of fun y hy => ?_
    obtain ⟨d, hd, rfl⟩ := pys_mem hy
    obtain ⟨w, hw, rfl⟩ := List.mem_map.mp hd
    exact (small_tup (h w hw)).2
  have hz : (mat L).py.shown.length ≤ sizeLine := by
    show (listText (shownAll (D.pys (L.map iT)))).length ≤ sizeLine
    have := list_text_le (m := 6003) (ts := shownAll (D.pys (L.map iT))) fun t ht => by
      obtain ⟨y, hy, rfl⟩ := shownAll_mem ht
      obtain ⟨d, hd, rfl⟩ := pys_mem hy
      obtain ⟨w, hw, rfl⟩ := List.mem_map.mp hd
      exact (small_tup (h w hw)).1
    rw [shownAll_len, pys_len, List.length_map] at this
    have e : sizeLine = 16777216 := by decide +kernel
    rw [e]
    have : L.length * 6005 ≤ 1000 * 6005 := Nat.mul_le_mul_right _ hl
    omega
  refine ⟨?_, mat_strOk hl h⟩
  show (if ((mat L).pl deepest && (mat L).py.showable && decide ((mat L).py.shown.length ≤ sizeLine)) = true then slV (.str (mat L).py.shown) else none) = _
  rw [hp, hs, decide_eq_true hz]
  rfl
end
end RF


/-! LP7: the paths of a full system -/
namespace RF
open PySem PySem.Spec PyProof.Rows L2
theorem nxs_mem {ss : List (Int × List Int)} {i : Int} (h0 : 0 ≤ i) (h1 : i < ss.length) : ∃ p ∈ ss, nxs ss i = p.2 := by
  have hj : i.toNat < ss.length := by omega
  refine ⟨ss[i.toNat], List.getElem_mem hj, ?_⟩
  unfold nxs
  rw [List.getD_eq_getElem?_getD, List.getElem?_eq_getElem hj]
  rfl
theorem grow_len_eq {ss : List (Int × List Int)} {b : Nat} : ∀ {L : List (List Int)}, (∀ p ∈ L, (nxs ss (lstI p)).length = b) → (grow ss L).length = L.length * b
  | [], _ => by rw [List.length_nil, Nat.zero_mul]; rfl
  | p :: L, h => by
    have ih := grow_len_eq (L := L) fun q hq => h q (List.mem_cons_of_mem _ hq)
    unfold grow at ih ⊢
    rw [List.flatMap_cons, List.length_append, List.length_map, List.length_cons, Nat.succ_mul, ih, h p List.mem_cons_self]
    omega
theorem pth_len_eq {c : Int} {a : List Int} {ss : List (Int × List Int)} {b : Nat} (h : SysOk c a ss) (ha : a.length = b) (hn : ∀ p ∈ ss, p.2.length = b) : ∀ k, k ≤ 500 → (pth a ss k).length = b ^ (k + 1)
  | 0, _ => by
    show (a.map _).length = _
    rw [List.length_map, Nat.zero_add, Nat.pow_one]
    exact ha
  | k + 1, hk => by
    have h1 := grow_len_eq (ss := ss) (b := b) (L := pth a ss k) fun p hp => by
      obtain ⟨_, ⟨h0, h1⟩, _⟩ := pth_use h (show k ≤ 500 by omega) p hp
      obtain ⟨q, hq, e⟩ := nxs_mem h0 h1
      rw [e]
      exact hn q hq
    rw [Nat.pow_succ, ← pth_len_eq h ha hn k (by omega)]
    exact h1
theorem lstI_rep {z : Int} {k : Nat} : lstI (List.replicate (k + 1) z) = z := by
  rw [List.replicate_succ']
  exact lstI_snoc
theorem grow_app {ss : List (Int × List Int)} {L M : List (List Int)} : grow ss (L ++ M) = grow ss L ++ grow ss M := by
  unfold grow
  rw [List.flatMap_append]
theorem grow_one {ss : List (Int × List Int)} {p : List Int} : grow ss [p] = (nxs ss (lstI p)).map fun x => p ++ [x] := by
  unfold grow
  rw [List.flatMap_cons, List.flatMap_nil, List.append_nil]
theorem pth_first {a : List Int} {ss : List (Int × List Int)} {z : Int} (ha : ∃ r, a = z :: r) (hz : ∃ r, nxs ss z = z :: r) : ∀ k, ∃ M, pth a ss k = List.replicate (k + 1) z :: M
  | 0 => by
    obtain ⟨r, rfl⟩ := ha
    exact ⟨r.map fun x => [x], rfl⟩
  | k + 1 => by
    obtain ⟨M, hM⟩ := pth_first ha hz k
    obtain ⟨r, hr⟩ := hz
    refine ⟨(r.map fun x => List.replicate (k + 1) z ++ [x]) ++ grow ss M, ?_⟩
    show grow ss (pth a ss k) = _
    rw [hM, ← List.singleton_append, grow_app, grow_one, lstI_rep, hr, List.map_cons, List.replicate_succ' (n := k + 1), List.cons_append]
theorem pth_last {a : List Int} {ss : List (Int × List Int)} {z : Int} (ha : ∃ r, a = r ++ [z]) (hz : ∃ r, nxs ss z = r ++ [z]) : ∀ k, ∃ M, pth a ss k = M ++ [List.replicate (k + 1) z]
  | 0 => by
    obtain ⟨r, rfl⟩ := ha
    exact ⟨r.map fun x => [x], by show (r ++ [z]).map _ = _; rw [List.map_append]; rfl⟩
  | k + 1 => by
    obtain ⟨M, hM⟩ := pth_last ha hz k
    obtain ⟨r, hr⟩ := hz
    refine ⟨grow ss M ++ r.map fun x => List.replicate (k + 1) z ++ [x], ?_⟩
    show grow ss (pth a ss k) = _
    rw [hM, grow_app, grow_one, lstI_rep, hr, List.map_append, ← List.append_assoc, List.replicate_succ' (n := k + 1)]
    rfl
/-- the numbers below m -/
def rg (m : Nat) : List Int := (List.range m).map fun (j : Nat) => (j : Int)
def fullS (m : Nat) : List (Int × List Int) := List.replicate m (0, rg m)
theorem rg_ris {m : Nat} (h : m ≤ 8) (h1 : 1 ≤ m) : Ris (m : Int) (rg m) := by
  have : m = 1 ∨ m = 2 ∨ m = 3 ∨ m = 4 ∨ m = 5 ∨ m = 6 ∨ m = 7 ∨ m = 8 := by omega
  rcases this with rfl | rfl | rfl | rfl | rfl | rfl | rfl | rfl <;> exact ⟨by decide, by decide, by decide⟩
theorem full_ok {m : Nat} (h : m ≤ 8) (h1 : 1 ≤ m) : SysOk 1 (rg m) (fullS m) := by
  have e : (fullS m).length = m := List.length_replicate
  refine ⟨by decide, by decide, by omega, by omega, by rw [e]; exact rg_ris h h1, fun p hp => ?_⟩
  obtain rfl := List.eq_of_mem_replicate hp
  exact ⟨⟨Int.le_refl 0, (by decide : (0 : Int) < 1)⟩, by rw [e]; exact rg_ris h h1⟩
theorem rg_len (m : Nat) : (rg m).length = m := by
  unfold rg
  rw [List.length_map, List.length_range]
theorem full_len {m k : Nat} (h : m ≤ 8) (h1 : 1 ≤ m) (hk : k ≤ 500) : (pth (rg m) (fullS m) k).length = m ^ (k + 1) :=
  pth_len_eq (full_ok h h1) (rg_len m) (fun p hp => by obtain rfl := List.eq_of_mem_replicate hp; exact rg_len m) k hk
theorem full_nx {m : Nat} {i : Int} (h0 : 0 ≤ i) (h1 : i < m) : nxs (fullS m) i = rg m := by
  obtain ⟨p, hp, e⟩ := nxs_mem (ss := fullS m) h0 (by unfold fullS; rw [List.length_replicate]; exact h1)
  obtain rfl := List.eq_of_mem_replicate hp
  exact e
theorem rg_first {m : Nat} (h1 : 1 ≤ m) : ∃ r, rg m = 0 :: r := by
  obtain ⟨k, rfl⟩ : ∃ k, m = k + 1 := ⟨m - 1, by omega⟩
  unfold rg
  rw [List.range_succ_eq_map, List.map_cons]
  exact ⟨_, rfl⟩
theorem rg_last {m : Nat} (h1 : 1 ≤ m) : ∃ r, rg m = r ++ [(m : Int) - 1] := by
  obtain ⟨k, rfl⟩ : ∃ k, m = k + 1 := ⟨m - 1, by omega⟩
  unfold rg
  rw [List.range_succ, List.map_append]
  refine ⟨_, congrArg _ ?_⟩
  show [(k : Int)] = [((k + 1 : Nat) : Int) - 1]
  congr 1
  omega
theorem full_first {m : Nat} (h1 : 1 ≤ m) (k : Nat) : ∃ M, pth (rg m) (fullS m) k = List.replicate (k + 1) 0 :: M :=
  pth_first (rg_first h1) (by rw [full_nx (by decide) (by omega)]; exact rg_first h1) k
theorem full_last {m : Nat} (h1 : 1 ≤ m) (k : Nat) : ∃ M, pth (rg m) (fullS m) k = M ++ [List.replicate (k + 1) ((m : Int) - 1)] :=
  pth_last (rg_last h1) (by rw [full_nx (by omega) (by omega)]; exact rg_last h1) k
/-- eight states with five nexts, one of them with five or six -/
def mixS (b : Bool) : List (Int × List Int) := List.replicate 4 (0, rg 5) ++ [(0, if b then rg 6 else rg 5)] ++ List.replicate 3 (0, rg 5)
theorem mix_ok (b : Bool) : SysOk 1 (rg 8) (mixS b) := by
  have r5 : Ris 8 (rg 5) := ⟨by decide, by decide, by decide⟩
  have r6 : Ris 8 (rg 6) := ⟨by decide, by decide, by decide⟩
  have e : (mixS b).length = 8 := by cases b <;> rfl
  refine ⟨by decide, by decide, by omega, by omega, by rw [e]; exact ⟨by decide, by decide, by decide⟩, fun p hp => ?_⟩
  rw [e]
  have hp' : p = (0, rg 5) ∨ p = (0, rg 6) := by
    unfold mixS at hp
    rw [List.mem_append, List.mem_append] at hp
    rcases hp with (hp | hp) | hp
    · exact .inl (List.eq_of_mem_replicate hp)
    · rw [List.mem_singleton] at hp
      cases b
      · exact .inl hp
      · exact .inr hp
    · exact .inl (List.eq_of_mem_replicate hp)
  rcases hp' with rfl | rfl
  · exact ⟨⟨by decide, by decide⟩, r5⟩
  · exact ⟨⟨by decide, by decide⟩, r6⟩
theorem mix_len0 : (pth (rg 8) (mixS false) 4).length = 5000 := by decide +kernel
theorem mix_len1 : 5000 < (pth (rg 8) (mixS true) 4).length := by decide +kernel
theorem mix_few (b : Bool) : ∀ k ≤ 4, (pth (rg 8) (mixS b) k).length ≤ 100000 := fun k hk => by
  have h := pth_len (a := rg 8) (ss := mixS b) (b := 8) (by rw [rg_len]; exact Nat.le_refl _) (by cases b <;> decide) k
  have := Nat.pow_le_pow_right (n := 8) (by decide) (show k + 1 ≤ 5 by omega)
  have e : 8 ^ 5 = 32768 := rfl
  omega
end RF


section
open PySem PySem.Spec PyProof.Rows L2 RF
namespace LawT
abbrev top (i : Nat) : Stmt := PySem.Challenge.pw_manyrooms_k34_paths_of_systems.main.body.getD i (.Pass ⟨0, 0, 0, 0⟩)


/-- _law_said -/
def Fn.law_said_2.s0 : I := (.asg (.tN 1) (.lstE (.consE (.cS "several") (.consE (.cS "system") (.consE (.cS "watcher") (.consE (.cS "question") (.consE (.cS "path") (.consE (.cS "much") .nilE))))))))
def Fn.law_said_2.s1 : I := (.ret (.ife (.tor (.tand (.tv (.blt .isinstance (.argN 0 (.consE (.bty "str") .nilE)))) (.tcp .In (.argN 0 (.argN 1 .nilE)))) (.tand (.tv (.blt .isinstance (.argN 0 (.consE (.bty "tuple") .nilE)))) (.tcp .Eq (.consE (.sle false true (.argN 0 (.consE (.cI 1) .nilE))) (.consE (.tupE (.consE (.cS "refused") .nilE)) .nilE))))) (.lstE (.consE (.var 0) .nilE)) (.mov 0)))
def Fn.law_said_2.b : I :=
  (.seq Fn.law_said_2.s0 (.seq Fn.law_said_2.s1 .skip))
def Fn.law_said_2 : FDef := ⟨1, 2, [true], Fn.law_said_2.b⟩
/-- _law_told -/
def Fn.law_told_2.b : I :=
  (.seq (.tryT 2 "ParallaxError" "refused" (.seq (.ret (.call 19 (.consE (.call 23 (.argN 0 (.argN 1 .nilE))) .nilE)))
  .skip))
  .skip)
def Fn.law_told_2 : FDef := ⟨2, 3, [true, true], Fn.law_told_2.b⟩
/-- law -/
def Fn.law_2.s0 : I := (.asg (.tN 1) (.call 0 (.argN 0 .nilE)))
def Fn.law_2.f0 : I := (.forS (.tN 6) (.itV (.lstE (.consE (.sle false true (.argN 4 (.argN 5 .nilE))) (.consE (.sle true false (.argN 4 (.argN 5 .nilE))) (.consE (.bop .Add (.consE (.bop .Add (.consE (.sle false true (.argN 4 (.argN 5 .nilE))) (.consE (.tupE (.consE (.bop .Sub (.consE (.call 1 (.argN 1 (.consE (.cI 7) .nilE))) (.consE (.cI 1) .nilE))) .nilE)) .nilE))) (.consE (.sle true false (.argN 4 (.consE (.bop .Add (.argN 5 (.consE (.cI 1) .nilE))) .nilE))) .nilE))) (.consE (.bop .Add (.consE (.bop .Add (.consE (.sle false true (.argN 4 (.argN 5 .nilE))) (.consE (.tupE (.consE (.call 1 (.argN 1 (.consE (.cI 6) .nilE))) .nilE)) .nilE))) (.consE (.sle true false (.argN 4 (.argN 5 .nilE))) .nilE))) (.consE (.bop .Add (.argN 4 (.consE (.tupE (.consE (.call 1 (.argN 1 (.consE (.cI 6) .nilE))) .nilE)) .nilE))) (.consE (.tupE (.consE (.blt .len (.consE (.ixe (.argN 3 (.consE (.cI 2) .nilE))) .nilE)) .nilE)) (.consE (.tupE (.consE (.uop .USub (.consE (.cI 1) .nilE)) .nilE)) .nilE)))))))))
  (.seq (.asg (.tN 7) (.call 30 (.argN 3 (.argN 6 .nilE))))
  (.seq (.ifS (.tor (.tnot (.tv (.blt .isinstance (.argN 7 (.consE (.bty "bool") .nilE))))) (.tcp .NotEq (.argN 7 (.consE (.call 31 (.argN 3 (.argN 6 .nilE))) .nilE))))
  (.seq (.ret (.cB false))
  .skip)
  .skip)
  .skip)))
def Fn.law_2.f1 : I := (.forS (.tN 2) (.itR (.consE (.cI 3) .nilE))
  (.seq (.asg (.tN 3) (.call 26 (.argN 1 (.consE (.bop .Add (.consE (.cI 1) (.consE (.call 1 (.argN 1 (.consE (.cI 4) .nilE))) .nilE))) (.consE (.cI 5) .nilE)))))
  (.seq (.asg (.tN 4) (.call 27 (.argN 1 (.argN 3 (.consE (.call 2 (.argN 1 (.consE (.lstE (.consE (.bop .Add (.consE (.cI 1) (.consE (.call 1 (.argN 1 (.consE (.cI 7) .nilE))) .nilE))) (.consE (.bop .Add (.consE (.cI 1) (.consE (.call 1 (.argN 1 (.consE (.cI 7) .nilE))) .nilE))) (.consE (.cI 12) (.consE (.cI 40) .nilE))))) .nilE))) .nilE)))))
  (.seq (.ifS (.tcp .IsNot (.consE (.call 30 (.argN 3 (.argN 4 .nilE))) (.consE (.cB true) .nilE)))
  (.seq (.ret (.cB false))
  .skip)
  .skip)
  (.seq (.asg (.tN 5) (.call 1 (.argN 1 (.consE (.blt .len (.argN 4 .nilE)) .nilE))))
  (.seq Fn.law_2.f0
  (.seq (.asg (.tN 8) (.bop .Add (.consE (.cI 1) (.consE (.call 1 (.argN 1 (.consE (.cI 5) .nilE))) .nilE))))
  (.seq (.asg (.tN 9) (.call 28 (.argN 3 (.argN 8 .nilE))))
  (.seq (.asg (.tN 7) (.call 24 (.argN 3 (.argN 8 .nilE))))
  (.seq (.ifS (.tor (.tnot (.tv (.blt .isinstance (.argN 7 (.consE (.bty "list") .nilE))))) (.tcp .NotEq (.consE (.blt .repr_ (.argN 7 .nilE)) (.consE (.blt .repr_ (.argN 9 .nilE)) .nilE))))
  (.seq (.ret (.cB false))
  .skip)
  .skip)
  (.seq (.app 7 (.tupE .nilE))
  (.seq (.ifS (.tor (.tcp .NotEq (.consE (.blt .repr_ (.consE (.call 23 (.argN 3 (.argN 8 .nilE))) .nilE)) (.consE (.blt .repr_ (.argN 9 .nilE)) .nilE))) (.tcp .NotEq (.consE (.blt .repr_ (.argN 7 .nilE)) (.consE (.blt .repr_ (.consE (.bop .Add (.argN 9 (.consE (.lstE (.consE (.tupE .nilE) .nilE)) .nilE))) .nilE)) .nilE))))
  (.seq (.ret (.cB false))
  .skip)
  .skip)
  .skip))))))))))))
def Fn.law_2.s1 : I := Fn.law_2.f1
def Fn.law_2.s2 : I := (.ifS (.tcp .Eq (.consE (.call 1 (.argN 1 (.consE (.cI 6) .nilE))) (.consE (.cI 0) .nilE)))
  (.seq (.asg (.tN 10) (.call 1 (.argN 1 (.consE (.cI 2) .nilE))))
  (.seq (.asg (.tN 11) (.bop .Add (.consE (.bop .Add (.consE (.bop .Mult (.consE (.tupE (.consE (.tupE (.consE (.cI 0) (.consE (.tupE (.consE (.cI 0) (.consE (.cI 1) (.consE (.cI 2) (.consE (.cI 3) (.consE (.cI 4) .nilE)))))) .nilE))) .nilE)) (.consE (.cI 4) .nilE))) (.consE (.tupE (.consE (.tupE (.consE (.cI 0) (.consE (.sle false true (.consE (.tupE (.consE (.cI 0) (.consE (.cI 1) (.consE (.cI 2) (.consE (.cI 3) (.consE (.cI 4) (.consE (.cI 5) .nilE))))))) (.consE (.bop .Add (.consE (.cI 5) (.argN 10 .nilE))) .nilE))) .nilE))) .nilE)) .nilE))) (.consE (.bop .Mult (.consE (.tupE (.consE (.tupE (.consE (.cI 0) (.consE (.tupE (.consE (.cI 0) (.consE (.cI 1) (.consE (.cI 2) (.consE (.cI 3) (.consE (.cI 4) .nilE)))))) .nilE))) .nilE)) (.consE (.cI 3) .nilE))) .nilE))))
  (.seq (.asg (.tN 7) (.call 24 (.consE (.tupE (.consE (.cI 1) (.consE (.tupR (.consE (.cI 8) .nilE)) (.consE (.var 11) .nilE)))) (.consE (.cI 5) .nilE))))
  (.seq (.ifS (.tor (.tcp .NotEq (.consE (.cop .Eq (.argN 7 (.consE (.tupE (.consE (.cS "refused") (.consE (.cS "much") .nilE))) .nilE))) (.consE (.cop .Eq (.argN 10 (.consE (.cI 1) .nilE))) .nilE))) (.tand (.tcp .Eq (.argN 10 (.consE (.cI 0) .nilE))) (.tcp .NotEq (.consE (.blt .len (.argN 7 .nilE)) (.consE (.cI 5000) .nilE)))))
  (.seq (.ret (.cB false))
  .skip)
  .skip)
  .skip))))
  .skip)
def Fn.law_2.s3 : I := (.asg (.tN 12) (.bop .Add (.consE (.cI 5) (.consE (.call 1 (.argN 1 (.consE (.cI 4) .nilE))) .nilE))))
def Fn.law_2.s4 : I := (.asg (.tN 13) (.tupE (.consE (.cI 1) (.consE (.tupR (.argN 12 .nilE)) (.consE (.bop .Mult (.consE (.tupE (.consE (.tupE (.consE (.cI 0) (.consE (.tupR (.argN 12 .nilE)) .nilE))) .nilE)) (.argN 12 .nilE))) .nilE)))))
def Fn.law_2.s5 : I := (.asg (.tN 8) (.call 2 (.argN 1 (.consE (.lstE (.consE (.cI 1) (.consE (.cI 2) (.consE (.cI 3) (.consE (.cI 4) (.consE (.cI 4) (.consE (.cI 5) .nilE))))))) .nilE))))
def Fn.law_2.s6 : I := (.asg (.tN 7) (.call 24 (.argN 13 (.argN 8 .nilE))))
def Fn.law_2.s7 : I := (.asg (.tN 14) (.cI 1))
def Fn.law_2.f2 : I := (.forS (.tN 15) (.itR (.argN 8 .nilE))
  (.seq (.asg (.tN 14) (.bop .Mult (.argN 14 (.argN 12 .nilE))))
  .skip))
def Fn.law_2.s8 : I := Fn.law_2.f2
def Fn.law_2.s9 : I := (.ifS (.tcp .Gt (.argN 14 (.consE (.cI 5000) .nilE)))
  (.seq (.ret (.cop .Eq (.argN 7 (.consE (.tupE (.consE (.cS "refused") (.consE (.cS "much") .nilE))) .nilE))))
  .skip)
  .skip)
def Fn.law_2.s10 : I := (.ret (.vand (.blt .isinstance (.argN 7 (.consE (.bty "list") .nilE))) (.vand (.cop .Eq (.consE (.blt .len (.argN 7 .nilE)) (.argN 14 .nilE))) (.vand (.cop .Eq (.consE (.ixe (.argN 7 (.consE (.cI 0) .nilE))) (.consE (.bop .Mult (.consE (.tupE (.consE (.cI 0) .nilE)) (.argN 8 .nilE))) .nilE))) (.cop .Eq (.consE (.ixe (.argN 7 (.consE (.bop .Sub (.argN 14 (.consE (.cI 1) .nilE))) .nilE))) (.consE (.bop .Mult (.consE (.tupE (.consE (.bop .Sub (.argN 12 (.consE (.cI 1) .nilE))) .nilE)) (.argN 8 .nilE))) .nilE)))))))
def Fn.law_2.b : I :=
  (.seq Fn.law_2.s0 (.seq Fn.law_2.s1 (.seq Fn.law_2.s2 (.seq Fn.law_2.s3 (.seq Fn.law_2.s4 (.seq Fn.law_2.s5 (.seq Fn.law_2.s6 (.seq Fn.law_2.s7 (.seq Fn.law_2.s8 (.seq Fn.law_2.s9 (.seq Fn.law_2.s10 .skip)))))))))))
def Fn.law_2 : FDef := ⟨1, 16, [true], Fn.law_2.b⟩
def g : GT := ⟨[(5, "MOST_COLOURS"), (6, "MOST_STATES"), (7, "MOST_PATHS")], [(0, ("_law_box", 1)), (1, ("_law_take", 2)), (2, ("_law_pick", 2)), (19, ("_law_said", 1)), (4, ("is_whole", 1)), (5, ("is_within", 3)), (20, ("is_rising", 2)), (21, ("is_system", 1)), (22, ("check_system", 1)), (23, ("paths", 2)), (24, ("_law_told", 2)), (25, ("_law_subset", 2)), (26, ("_law_system", 3)), (27, ("_law_path", 3)), (28, ("_law_all", 2)), (29, ("is_path_of", 2)), (30, ("is_path", 2)), (31, ("_law_is", 2)), (32, ("law", 1))], ["abs", "int", "len", "isinstance", "tuple", "str", "bool", "range", "sorted", "repr", "list"], ["BadSystem", "TooMuch"], ["ParallaxError"], some "_law_class"⟩
def fs : FS := [(0, boxF), (1, takeF), (2, Fn.law_pick), (19, Fn.law_said_2), (4, Fn.is_whole), (5, Fn.is_within), (20, Fn.is_rising), (21, Fn.is_system), (22, Fn.check_system), (23, Fn.paths), (24, Fn.law_told_2), (25, Fn.law_subset), (26, Fn.law_system), (27, Fn.law_path), (28, Fn.law_all), (29, Fn.is_path_of), (30, Fn.is_path), (31, Fn.law_is), (32, Fn.law_2)]
def sg : Sig := ⟨[(5, .int 4), (6, .int 8), (7, .int 5000)], 100000, [(("BadSystem", "ParallaxError"), true), (("TooMuch", "ParallaxError"), true)], [("BadSystem", "system"), ("TooMuch", "much")]⟩
instance : LimOk sg := ⟨by decide⟩
instance : Has fs 0 boxF := ⟨rfl⟩
instance : Has fs 1 takeF := ⟨rfl⟩
instance : Has fs 2 Fn.law_pick := ⟨rfl⟩
instance : Has fs 19 Fn.law_said_2 := ⟨rfl⟩
instance : Has fs 4 Fn.is_whole := ⟨rfl⟩
instance : Has fs 5 Fn.is_within := ⟨rfl⟩
instance : Has fs 20 Fn.is_rising := ⟨rfl⟩
instance : Has fs 21 Fn.is_system := ⟨rfl⟩
instance : Has fs 22 Fn.check_system := ⟨rfl⟩
instance : Has fs 23 Fn.paths := ⟨rfl⟩
instance : Has fs 24 Fn.law_told_2 := ⟨rfl⟩
instance : Has fs 25 Fn.law_subset := ⟨rfl⟩
instance : Has fs 26 Fn.law_system := ⟨rfl⟩
instance : Has fs 27 Fn.law_path := ⟨rfl⟩
instance : Has fs 28 Fn.law_all := ⟨rfl⟩
instance : Has fs 29 Fn.is_path_of := ⟨rfl⟩
instance : Has fs 30 Fn.is_path := ⟨rfl⟩
instance : Has fs 31 Fn.law_is := ⟨rfl⟩
instance : Has fs 32 Fn.law_2 := ⟨rfl⟩
instance : HasC sg 5 (.int 4) := ⟨rfl⟩
instance : HasC sg 6 (.int 8) := ⟨rfl⟩
instance : HasC sg 7 (.int 5000) := ⟨rfl⟩
theorem ok0 : DefOk g sg boxF (top 21) ["script", "x"] ["script"] [] := ⟨⟨rfl, rfl, rfl, by decide +kernel, rfl, by decide +kernel, by decide +kernel⟩, rfl, rfl, fix_of (by decide +kernel), by decide +kernel⟩
theorem ok1 : DefOk g sg takeF (top 22) ["box", "m", "at", "cell", "told"] ["box", "m"] [2, 3, 4] := ⟨⟨rfl, rfl, rfl, by decide +kernel, rfl, by decide +kernel, by decide +kernel⟩, rfl, rfl, fix_of (by decide +kernel), by decide +kernel⟩
theorem ok2 : DefOk g sg Fn.law_pick (top 23) ["box", "menu"] ["box", "menu"] [] := ⟨⟨rfl, rfl, rfl, by decide +kernel, rfl, by decide +kernel, by decide +kernel⟩, rfl, rfl, fix_of (by decide +kernel), by decide +kernel⟩
theorem ok3 : DefOk g sg Fn.law_said_2 (top 30) ["x", "signs"] ["x"] [1] := ⟨⟨rfl, rfl, rfl, by decide +kernel, rfl, by decide +kernel, by decide +kernel⟩, rfl, rfl, fix_of (by decide +kernel), by decide +kernel⟩
theorem ok4 : DefOk g sg Fn.is_whole (top 8) ["x"] ["x"] [] := ⟨⟨rfl, rfl, rfl, by decide +kernel, rfl, by decide +kernel, by decide +kernel⟩, rfl, rfl, fix_of (by decide +kernel), by decide +kernel⟩
theorem ok5 : DefOk g sg Fn.is_within (top 9) ["x", "low", "high"] ["x", "low", "high"] [] := ⟨⟨rfl, rfl, rfl, by decide +kernel, rfl, by decide +kernel, by decide +kernel⟩, rfl, rfl, fix_of (by decide +kernel), by decide +kernel⟩
theorem ok6 : DefOk g sg Fn.is_rising (top 10) ["x", "many", "before", "n"] ["x", "many"] [2, 3] := ⟨⟨rfl, rfl, rfl, by decide +kernel, rfl, by decide +kernel, by decide +kernel⟩, rfl, rfl, fix_of (by decide +kernel), by decide +kernel⟩
theorem ok7 : DefOk g sg Fn.is_system (top 15) ["s", "colours", "starts", "states", "state"] ["s"] [1, 2, 3, 4] := ⟨⟨rfl, rfl, rfl, by decide +kernel, rfl, by decide +kernel, by decide +kernel⟩, rfl, rfl, fix_of (by decide +kernel), by decide +kernel⟩
theorem ok8 : DefOk g sg Fn.check_system (top 16) ["s"] ["s"] [] := ⟨⟨rfl, rfl, rfl, by decide +kernel, rfl, by decide +kernel, by decide +kernel⟩, rfl, rfl, fix_of (by decide +kernel), by decide +kernel⟩
theorem ok9 : DefOk g sg Fn.paths (top 19) ["s", "n", "found", "_", "start", "path", "to"] ["s", "n"] [2, 3] := ⟨⟨rfl, rfl, rfl, by decide +kernel, rfl, by decide +kernel, by decide +kernel⟩, rfl, rfl, fix_of (by decide +kernel), by decide +kernel⟩
theorem ok10 : DefOk g sg Fn.law_told_2 (top 31) ["s", "n", "e"] ["s", "n"] [2] := ⟨⟨rfl, rfl, rfl, by decide +kernel, rfl, by decide +kernel, by decide +kernel⟩, rfl, rfl, fix_of (by decide +kernel), by decide +kernel⟩
theorem ok11 : DefOk g sg Fn.law_subset (top 24) ["box", "many", "found", "k", "to"] ["box", "many"] [2, 3, 4] := ⟨⟨rfl, rfl, rfl, by decide +kernel, rfl, by decide +kernel, by decide +kernel⟩, rfl, rfl, fix_of (by decide +kernel), by decide +kernel⟩
theorem ok12 : DefOk g sg Fn.law_system (top 25) ["box", "colours", "most", "many", "states", "x"] ["box", "colours", "most"] [3, 4] := ⟨⟨rfl, rfl, rfl, by decide +kernel, rfl, by decide +kernel, by decide +kernel⟩, rfl, rfl, fix_of (by decide +kernel), by decide +kernel⟩
theorem ok13 : DefOk g sg Fn.law_path (top 26) ["box", "s", "length", "path", "k"] ["box", "s", "length"] [3, 4] := ⟨⟨rfl, rfl, rfl, by decide +kernel, rfl, by decide +kernel, by decide +kernel⟩, rfl, rfl, fix_of (by decide +kernel), by decide +kernel⟩
theorem ok14 : DefOk g sg Fn.law_all (top 29) ["s", "n", "found", "k", "longer", "path", "x"] ["s", "n"] [2, 3, 4, 5, 6] := ⟨⟨rfl, rfl, rfl, by decide +kernel, rfl, by decide +kernel, by decide +kernel⟩, rfl, rfl, fix_of (by decide +kernel), by decide +kernel⟩
theorem ok15 : DefOk g sg Fn.is_path_of (top 17) ["s", "path", "state", "k"] ["s", "path"] [2, 3] := ⟨⟨rfl, rfl, rfl, by decide +kernel, rfl, by decide +kernel, by decide +kernel⟩, rfl, rfl, fix_of (by decide +kernel), by decide +kernel⟩
theorem ok16 : DefOk g sg Fn.is_path (top 18) ["s", "path"] ["s", "path"] [] := ⟨⟨rfl, rfl, rfl, by decide +kernel, rfl, by decide +kernel, by decide +kernel⟩, rfl, rfl, fix_of (by decide +kernel), by decide +kernel⟩
theorem ok17 : DefOk g sg Fn.law_is (top 28) ["s", "path", "x", "k"] ["s", "path"] [2] := ⟨⟨rfl, rfl, rfl, by decide +kernel, rfl, by decide +kernel, by decide +kernel⟩, rfl, rfl, fix_of (by decide +kernel), by decide +kernel⟩
theorem ok18 : DefOk g sg Fn.law_2 (top 32) ["script", "box", "turn", "s", "path", "at", "other", "told", "n", "due", "more", "states", "many", "full", "total", "k"] ["script"] [1, 2, 3, 4, 5, 6, 7, 8, 9, 10, 11, 12, 13, 14, 15] := ⟨⟨rfl, rfl, rfl, by decide +kernel, rfl, by decide +kernel, by decide +kernel⟩, rfl, rfl, fix_of (by decide +kernel), by decide +kernel⟩
theorem tops {P : Program} {w : World} {K : PySem.W.Frag} {h : Heap} {mg : Str → Option Value} (X : K.In h) (G : h.Ns mainGlobals mg)
    {f0 : Addr} {od0 an0 : Option Addr} {oc0 kV0 dc0 pm0 cd0 ct0 : Value} {sl0 : Array (Option Value)}
    {f1 : Addr} {od1 an1 : Option Addr} {oc1 kV1 dc1 pm1 cd1 ct1 : Value} {sl1 : Array (Option Value)}
    {f2 : Addr} {od2 an2 : Option Addr} {oc2 kV2 dc2 pm2 cd2 ct2 : Value} {sl2 : Array (Option Value)}
    {f3 : Addr} {od3 an3 : Option Addr} {oc3 kV3 dc3 pm3 cd3 ct3 : Value} {sl3 : Array (Option Value)}
    {f4 : Addr} {od4 an4 : Option Addr} {oc4 kV4 dc4 pm4 cd4 ct4 : Value} {sl4 : Array (Option Value)}
    {f5 : Addr} {od5 an5 : Option Addr} {oc5 kV5 dc5 pm5 cd5 ct5 : Value} {sl5 : Array (Option Value)}
    {f6 : Addr} {od6 an6 : Option Addr} {oc6 kV6 dc6 pm6 cd6 ct6 : Value} {sl6 : Array (Option Value)}
    {f7 : Addr} {od7 an7 : Option Addr} {oc7 kV7 dc7 pm7 cd7 ct7 : Value} {sl7 : Array (Option Value)}
    {f8 : Addr} {od8 an8 : Option Addr} {oc8 kV8 dc8 pm8 cd8 ct8 : Value} {sl8 : Array (Option Value)}
    {f9 : Addr} {od9 an9 : Option Addr} {oc9 kV9 dc9 pm9 cd9 ct9 : Value} {sl9 : Array (Option Value)}
    {f10 : Addr} {od10 an10 : Option Addr} {oc10 kV10 dc10 pm10 cd10 ct10 : Value} {sl10 : Array (Option Value)}
    {f11 : Addr} {od11 an11 : Option Addr} {oc11 kV11 dc11 pm11 cd11 ct11 : Value} {sl11 : Array (Option Value)}
    {f12 : Addr} {od12 an12 : Option Addr} {oc12 kV12 dc12 pm12 cd12 ct12 : Value} {sl12 : Array (Option Value)}
    {f13 : Addr} {od13 an13 : Option Addr} {oc13 kV13 dc13 pm13 cd13 ct13 : Value} {sl13 : Array (Option Value)}
    {f14 : Addr} {od14 an14 : Option Addr} {oc14 kV14 dc14 pm14 cd14 ct14 : Value} {sl14 : Array (Option Value)}
    {f15 : Addr} {od15 an15 : Option Addr} {oc15 kV15 dc15 pm15 cd15 ct15 : Value} {sl15 : Array (Option Value)}
    {f16 : Addr} {od16 an16 : Option Addr} {oc16 kV16 dc16 pm16 cd16 ct16 : Value} {sl16 : Array (Option Value)}
    {f17 : Addr} {od17 an17 : Option Addr} {oc17 kV17 dc17 pm17 cd17 ct17 : Value} {sl17 : Array (Option Value)}
    {f18 : Addr} {od18 an18 : Option Addr} {oc18 kV18 dc18 pm18 cd18 ct18 : Value} {sl18 : Array (Option Value)}
    {pt0 : Tok}
    {pt1 : Tok}
    {pt2 : Tok}
    {e0 : Addr}
    {e1 : Addr}
    {e2 : Addr}
    {e3 : Addr}
    {e4 : Addr}
    {e5 : Addr}
    {f900 : Addr} {od900 an900 : Option Addr} {oc900 kV900 dc900 pm900 cd900 ct900 : Value} {sl900 : Array (Option Value)}
    (a0 : PySem.W.nsIn K mainGlobals "_law_box" = some (some (.ref f0))) (l0 : K.lookup f0 = some ⟨oc0, od0, .func (PySem.W.fnOf "_law_box" "_law_box" (defArgs (top 21)) (defBody (top 21)) (defScope (top 21)) .none kV0 dc0 pm0 an0 cd0 ct0), sl0⟩) (c0 : PySem.W.codeIn K cd0 "_law_box" = true) (k0 : PySem.W.keepIn K (.ref f0) = true)
    (a1 : PySem.W.nsIn K mainGlobals "_law_take" = some (some (.ref f1))) (l1 : K.lookup f1 = some ⟨oc1, od1, .func (PySem.W.fnOf "_law_take" "_law_take" (defArgs (top 22)) (defBody (top 22)) (defScope (top 22)) .none kV1 dc1 pm1 an1 cd1 ct1), sl1⟩) (c1 : PySem.W.codeIn K cd1 "_law_take" = true) (k1 : PySem.W.keepIn K (.ref f1) = true)
    (a2 : PySem.W.nsIn K mainGlobals "_law_pick" = some (some (.ref f2))) (l2 : K.lookup f2 = some ⟨oc2, od2, .func (PySem.W.fnOf "_law_pick" "_law_pick" (defArgs (top 23)) (defBody (top 23)) (defScope (top 23)) .none kV2 dc2 pm2 an2 cd2 ct2), sl2⟩) (c2 : PySem.W.codeIn K cd2 "_law_pick" = true) (k2 : PySem.W.keepIn K (.ref f2) = true)
    (a3 : PySem.W.nsIn K mainGlobals "_law_said" = some (some (.ref f3))) (l3 : K.lookup f3 = some ⟨oc3, od3, .func (PySem.W.fnOf "_law_said" "_law_said" (defArgs (top 30)) (defBody (top 30)) (defScope (top 30)) .none kV3 dc3 pm3 an3 cd3 ct3), sl3⟩) (c3 : PySem.W.codeIn K cd3 "_law_said" = true) (k3 : PySem.W.keepIn K (.ref f3) = true)
    (a4 : PySem.W.nsIn K mainGlobals "is_whole" = some (some (.ref f4))) (l4 : K.lookup f4 = some ⟨oc4, od4, .func (PySem.W.fnOf "is_whole" "is_whole" (defArgs (top 8)) (defBody (top 8)) (defScope (top 8)) .none kV4 dc4 pm4 an4 cd4 ct4), sl4⟩) (c4 : PySem.W.codeIn K cd4 "is_whole" = true) (k4 : PySem.W.keepIn K (.ref f4) = true)
    (a5 : PySem.W.nsIn K mainGlobals "is_within" = some (some (.ref f5))) (l5 : K.lookup f5 = some ⟨oc5, od5, .func (PySem.W.fnOf "is_within" "is_within" (defArgs (top 9)) (defBody (top 9)) (defScope (top 9)) .none kV5 dc5 pm5 an5 cd5 ct5), sl5⟩) (c5 : PySem.W.codeIn K cd5 "is_within" = true) (k5 : PySem.W.keepIn K (.ref f5) = true)
    (a6 : PySem.W.nsIn K mainGlobals "is_rising" = some (some (.ref f6))) (l6 : K.lookup f6 = some ⟨oc6, od6, .func (PySem.W.fnOf "is_rising" "is_rising" (defArgs (top 10)) (defBody (top 10)) (defScope (top 10)) .none kV6 dc6 pm6 an6 cd6 ct6), sl6⟩) (c6 : PySem.W.codeIn K cd6 "is_rising" = true) (k6 : PySem.W.keepIn K (.ref f6) = true)
    (a7 : PySem.W.nsIn K mainGlobals "is_system" = some (some (.ref f7))) (l7 : K.lookup f7 = some ⟨oc7, od7, .func (PySem.W.fnOf "is_system" "is_system" (defArgs (top 15)) (defBody (top 15)) (defScope (top 15)) .none kV7 dc7 pm7 an7 cd7 ct7), sl7⟩) (c7 : PySem.W.codeIn K cd7 "is_system" = true) (k7 : PySem.W.keepIn K (.ref f7) = true)
    (a8 : PySem.W.nsIn K mainGlobals "check_system" = some (some (.ref f8))) (l8 : K.lookup f8 = some ⟨oc8, od8, .func (PySem.W.fnOf "check_system" "check_system" (defArgs (top 16)) (defBody (top 16)) (defScope (top 16)) .none kV8 dc8 pm8 an8 cd8 ct8), sl8⟩) (c8 : PySem.W.codeIn K cd8 "check_system" = true) (k8 : PySem.W.keepIn K (.ref f8) = true)
    (a9 : PySem.W.nsIn K mainGlobals "paths" = some (some (.ref f9))) (l9 : K.lookup f9 = some ⟨oc9, od9, .func (PySem.W.fnOf "paths" "paths" (defArgs (top 19)) (defBody (top 19)) (defScope (top 19)) .none kV9 dc9 pm9 an9 cd9 ct9), sl9⟩) (c9 : PySem.W.codeIn K cd9 "paths" = true) (k9 : PySem.W.keepIn K (.ref f9) = true)
    (a10 : PySem.W.nsIn K mainGlobals "_law_told" = some (some (.ref f10))) (l10 : K.lookup f10 = some ⟨oc10, od10, .func (PySem.W.fnOf "_law_told" "_law_told" (defArgs (top 31)) (defBody (top 31)) (defScope (top 31)) .none kV10 dc10 pm10 an10 cd10 ct10), sl10⟩) (c10 : PySem.W.codeIn K cd10 "_law_told" = true) (k10 : PySem.W.keepIn K (.ref f10) = true)
    (a11 : PySem.W.nsIn K mainGlobals "_law_subset" = some (some (.ref f11))) (l11 : K.lookup f11 = some ⟨oc11, od11, .func (PySem.W.fnOf "_law_subset" "_law_subset" (defArgs (top 24)) (defBody (top 24)) (defScope (top 24)) .none kV11 dc11 pm11 an11 cd11 ct11), sl11⟩) (c11 : PySem.W.codeIn K cd11 "_law_subset" = true) (k11 : PySem.W.keepIn K (.ref f11) = true)
    (a12 : PySem.W.nsIn K mainGlobals "_law_system" = some (some (.ref f12))) (l12 : K.lookup f12 = some ⟨oc12, od12, .func (PySem.W.fnOf "_law_system" "_law_system" (defArgs (top 25)) (defBody (top 25)) (defScope (top 25)) .none kV12 dc12 pm12 an12 cd12 ct12), sl12⟩) (c12 : PySem.W.codeIn K cd12 "_law_system" = true) (k12 : PySem.W.keepIn K (.ref f12) = true)
    (a13 : PySem.W.nsIn K mainGlobals "_law_path" = some (some (.ref f13))) (l13 : K.lookup f13 = some ⟨oc13, od13, .func (PySem.W.fnOf "_law_path" "_law_path" (defArgs (top 26)) (defBody (top 26)) (defScope (top 26)) .none kV13 dc13 pm13 an13 cd13 ct13), sl13⟩) (c13 : PySem.W.codeIn K cd13 "_law_path" = true) (k13 : PySem.W.keepIn K (.ref f13) = true)
    (a14 : PySem.W.nsIn K mainGlobals "_law_all" = some (some (.ref f14))) (l14 : K.lookup f14 = some ⟨oc14, od14, .func (PySem.W.fnOf "_law_all" "_law_all" (defArgs (top 29)) (defBody (top 29)) (defScope (top 29)) .none kV14 dc14 pm14 an14 cd14 ct14), sl14⟩) (c14 : PySem.W.codeIn K cd14 "_law_all" = true) (k14 : PySem.W.keepIn K (.ref f14) = true)
    (a15 : PySem.W.nsIn K mainGlobals "is_path_of" = some (some (.ref f15))) (l15 : K.lookup f15 = some ⟨oc15, od15, .func (PySem.W.fnOf "is_path_of" "is_path_of" (defArgs (top 17)) (defBody (top 17)) (defScope (top 17)) .none kV15 dc15 pm15 an15 cd15 ct15), sl15⟩) (c15 : PySem.W.codeIn K cd15 "is_path_of" = true) (k15 : PySem.W.keepIn K (.ref f15) = true)
    (a16 : PySem.W.nsIn K mainGlobals "is_path" = some (some (.ref f16))) (l16 : K.lookup f16 = some ⟨oc16, od16, .func (PySem.W.fnOf "is_path" "is_path" (defArgs (top 18)) (defBody (top 18)) (defScope (top 18)) .none kV16 dc16 pm16 an16 cd16 ct16), sl16⟩) (c16 : PySem.W.codeIn K cd16 "is_path" = true) (k16 : PySem.W.keepIn K (.ref f16) = true)
    (a17 : PySem.W.nsIn K mainGlobals "_law_is" = some (some (.ref f17))) (l17 : K.lookup f17 = some ⟨oc17, od17, .func (PySem.W.fnOf "_law_is" "_law_is" (defArgs (top 28)) (defBody (top 28)) (defScope (top 28)) .none kV17 dc17 pm17 an17 cd17 ct17), sl17⟩) (c17 : PySem.W.codeIn K cd17 "_law_is" = true) (k17 : PySem.W.keepIn K (.ref f17) = true)
    (a18 : PySem.W.nsIn K mainGlobals "law" = some (some (.ref f18))) (l18 : K.lookup f18 = some ⟨oc18, od18, .func (PySem.W.fnOf "law" "law" (defArgs (top 32)) (defBody (top 32)) (defScope (top 32)) .none kV18 dc18 pm18 an18 cd18 ct18), sl18⟩) (c18 : PySem.W.codeIn K cd18 "law" = true) (k18 : PySem.W.keepIn K (.ref f18) = true)
    (z0 : PySem.W.nsIn K mainGlobals "abs" = some none)
    (z1 : PySem.W.nsIn K mainGlobals "int" = some none)
    (z2 : PySem.W.nsIn K mainGlobals "len" = some none)
    (z3 : PySem.W.nsIn K mainGlobals "isinstance" = some none)
    (z4 : PySem.W.nsIn K mainGlobals "tuple" = some none)
    (z5 : PySem.W.nsIn K mainGlobals "str" = some none)
    (z6 : PySem.W.nsIn K mainGlobals "bool" = some none)
    (z7 : PySem.W.nsIn K mainGlobals "range" = some none)
    (z8 : PySem.W.nsIn K mainGlobals "sorted" = some none)
    (z9 : PySem.W.nsIn K mainGlobals "repr" = some none)
    (z10 : PySem.W.nsIn K mainGlobals "list" = some none)
    (z11 : PySem.W.nsIn K mainGlobals "ValueError" = some none)
    (g0 : PySem.W.nsIn K mainGlobals "MOST_COLOURS" = some (some (.int 4 pt0)))
    (g1 : PySem.W.nsIn K mainGlobals "MOST_STATES" = some (some (.int 8 pt1)))
    (g2 : PySem.W.nsIn K mainGlobals "MOST_PATHS" = some (some (.int 5000 pt2)))
    (ge0 : PySem.W.nsIn K mainGlobals "BadSystem" = some (some (.ref e0)))
    (ge1 : PySem.W.nsIn K mainGlobals "TooMuch" = some (some (.ref e1)))
    (ge2 : PySem.W.nsIn K mainGlobals "ParallaxError" = some (some (.ref e2)))
    (ge3 : PySem.W.nsIn K mainGlobals "BadWatcher" = some (some (.ref e3)))
    (ge4 : PySem.W.nsIn K mainGlobals "BadQuestion" = some (some (.ref e4)))
    (ge5 : PySem.W.nsIn K mainGlobals "BadPath" = some (some (.ref e5)))
    (xa0 : PySem.W.excIn K e0 [.type "ValueError", .type "Exception", .type "BaseException", .type "object"] "ValueError.__new__" = true) (xb0 : PySem.W.keepIn K (.ref e0) = true) (xc0 : PySem.W.subIn K (.ref e0) (.type "BaseException") = some true) (xd0 : PySem.W.typeIn K (.ref e0) = some (.type "type"))
    (xa1 : PySem.W.excIn K e1 [.type "ValueError", .type "Exception", .type "BaseException", .type "object"] "ValueError.__new__" = true) (xb1 : PySem.W.keepIn K (.ref e1) = true) (xc1 : PySem.W.subIn K (.ref e1) (.type "BaseException") = some true) (xd1 : PySem.W.typeIn K (.ref e1) = some (.type "type"))
    (s0_2 : PySem.W.exmOne K (.ref e0) (.ref e2) = some true)
    (s1_2 : PySem.W.exmOne K (.ref e1) (.ref e2) = some true)
    (ya0 : PySem.W.findIn K (.ref e0) "__getattribute__" = some (some (.builtin "BaseException.__getattribute__"))) (yb0 : PySem.W.findIn K (.ref e0) "__getattr__" = some none) (yd0 : PySem.W.hasDictIn K e0 = true) (ye0 : PySem.W.findIn K (.ref e0) "__class__" = some (some (.builtin "object.__class__"))) (yf0 : PySem.W.specialIn K (.builtin "object.__class__") "__get__" = some (some (.builtin "getset_descriptor.__get__"))) (yg0 : PySem.W.takesIn K (.builtin "object.__class__") = some true) (yh0 : PySem.W.mroIn K e0 (.type "object") = some true) (yv0 : PySem.W.kitOne K (.ref e0) (.type "ValueError") = some true) (yw0 : PySem.W.findIn K (.ref e0) "__str__" = some (some (.builtin "BaseException.__str__")))
    (i0_0 : PySem.W.kitOne K (.ref e0) (.ref e0) = some true)
    (i0_1 : PySem.W.kitOne K (.ref e0) (.ref e3) = some false)
    (i0_2 : PySem.W.kitOne K (.ref e0) (.ref e4) = some false)
    (i0_3 : PySem.W.kitOne K (.ref e0) (.ref e5) = some false)
    (i0_4 : PySem.W.kitOne K (.ref e0) (.ref e1) = some false)
    (ya1 : PySem.W.findIn K (.ref e1) "__getattribute__" = some (some (.builtin "BaseException.__getattribute__"))) (yb1 : PySem.W.findIn K (.ref e1) "__getattr__" = some none) (yd1 : PySem.W.hasDictIn K e1 = true) (ye1 : PySem.W.findIn K (.ref e1) "__class__" = some (some (.builtin "object.__class__"))) (yf1 : PySem.W.specialIn K (.builtin "object.__class__") "__get__" = some (some (.builtin "getset_descriptor.__get__"))) (yg1 : PySem.W.takesIn K (.builtin "object.__class__") = some true) (yh1 : PySem.W.mroIn K e1 (.type "object") = some true) (yv1 : PySem.W.kitOne K (.ref e1) (.type "ValueError") = some true) (yw1 : PySem.W.findIn K (.ref e1) "__str__" = some (some (.builtin "BaseException.__str__")))
    (i1_0 : PySem.W.kitOne K (.ref e1) (.ref e0) = some false)
    (i1_1 : PySem.W.kitOne K (.ref e1) (.ref e3) = some false)
    (i1_2 : PySem.W.kitOne K (.ref e1) (.ref e4) = some false)
    (i1_3 : PySem.W.kitOne K (.ref e1) (.ref e5) = some false)
    (i1_4 : PySem.W.kitOne K (.ref e1) (.ref e1) = some true)
    (a900 : PySem.W.nsIn K mainGlobals "_law_class" = some (some (.ref f900))) (l900 : K.lookup f900 = some ⟨oc900, od900, .func (PySem.W.fnOf "_law_class" "_law_class" (defArgs (top 27)) (defBody (top 27)) (defScope (top 27)) .none kV900 dc900 pm900 an900 cd900 ct900), sl900⟩) (c900 : PySem.W.codeIn K cd900 "_law_class" = true) (k900 : PySem.W.keepIn K (.ref f900) = true) : Tops P w K mg g sg fs := by
  refine ⟨fun k x e => ?_, fun x e => ?_, fun f x np e => ?_, fun x e => ?_, fun x y hp1 hp2 => ?_⟩
  · refine assoc_all (P := PCon K mg sg) (l := g.con) ?_ e
    exact (@assoc_cons _ _ (PCon K mg sg) _ _ _ ⟨_, _, .int 4, rfl, PySem.W.mg_of X G g0, ⟨_, rfl⟩, fun _ _ => .int _⟩ (@assoc_cons _ _ (PCon K mg sg) _ _ _ ⟨_, _, .int 8, rfl, PySem.W.mg_of X G g1, ⟨_, rfl⟩, fun _ _ => .int _⟩ (@assoc_cons _ _ (PCon K mg sg) _ _ _ ⟨_, _, .int 5000, rfl, PySem.W.mg_of X G g2, ⟨_, rfl⟩, fun _ _ => .int _⟩ assoc_nil)))
  · exact free_of (free_cons (PySem.W.mg_none_of X G z0) (free_cons (PySem.W.mg_none_of X G z1) (free_cons (PySem.W.mg_none_of X G z2) (free_cons (PySem.W.mg_none_of X G z3) (free_cons (PySem.W.mg_none_of X G z4) (free_cons (PySem.W.mg_none_of X G z5) (free_cons (PySem.W.mg_none_of X G z6) (free_cons (PySem.W.mg_none_of X G z7) (free_cons (PySem.W.mg_none_of X G z8) (free_cons (PySem.W.mg_none_of X G z9) (free_cons (PySem.W.mg_none_of X G z10) free_nil))))))))))) x e
  · have Q := assoc_all (P := PDef K mg g sg fs) (l := g.fns) ?_ e
    · exact Q
    have F18 := fun_mk (st := top 32) l18 c18 k18
    have B18 : Binds K _ ["script"] [] := F18.binds fun _ _ _ _ _ _ us hl => match us, hl with | [_], _ => rfl
    have d18 : PDef K mg g sg fs 32 ("law", 1) := ⟨f18, _, _, top 32, Fn.law_2, _, _, _, PySem.W.mg_of X G a18, F18, B18, rfl, rfl, ok18⟩
    have F17 := fun_mk (st := top 28) l17 c17 k17
    have B17 : Binds K _ ["s", "path"] [] := F17.binds fun _ _ _ _ _ _ us hl => match us, hl with | [_, _], _ => rfl
    have d17 : PDef K mg g sg fs 31 ("_law_is", 2) := ⟨f17, _, _, top 28, Fn.law_is, _, _, _, PySem.W.mg_of X G a17, F17, B17, rfl, rfl, ok17⟩
    have F16 := fun_mk (st := top 18) l16 c16 k16
    have B16 : Binds K _ ["s", "path"] [] := F16.binds fun _ _ _ _ _ _ us hl => match us, hl with | [_, _], _ => rfl
    have d16 : PDef K mg g sg fs 30 ("is_path", 2) := ⟨f16, _, _, top 18, Fn.is_path, _, _, _, PySem.W.mg_of X G a16, F16, B16, rfl, rfl, ok16⟩
    have F15 := fun_mk (st := top 17) l15 c15 k15
    have B15 : Binds K _ ["s", "path"] [] := F15.binds fun _ _ _ _ _ _ us hl => match us, hl with | [_, _], _ => rfl
    have d15 : PDef K mg g sg fs 29 ("is_path_of", 2) := ⟨f15, _, _, top 17, Fn.is_path_of, _, _, _, PySem.W.mg_of X G a15, F15, B15, rfl, rfl, ok15⟩
    have F14 := fun_mk (st := top 29) l14 c14 k14
    have B14 : Binds K _ ["s", "n"] [] := F14.binds fun _ _ _ _ _ _ us hl => match us, hl with | [_, _], _ => rfl
    have d14 : PDef K mg g sg fs 28 ("_law_all", 2) := ⟨f14, _, _, top 29, Fn.law_all, _, _, _, PySem.W.mg_of X G a14, F14, B14, rfl, rfl, ok14⟩
    have F13 := fun_mk (st := top 26) l13 c13 k13
    have B13 : Binds K _ ["box", "s", "length"] [] := F13.binds fun _ _ _ _ _ _ us hl => match us, hl with | [_, _, _], _ => rfl
    have d13 : PDef K mg g sg fs 27 ("_law_path", 3) := ⟨f13, _, _, top 26, Fn.law_path, _, _, _, PySem.W.mg_of X G a13, F13, B13, rfl, rfl, ok13⟩
    have F12 := fun_mk (st := top 25) l12 c12 k12
    have B12 : Binds K _ ["box", "colours", "most"] [] := F12.binds fun _ _ _ _ _ _ us hl => match us, hl with | [_, _, _], _ => rfl
    have d12 : PDef K mg g sg fs 26 ("_law_system", 3) := ⟨f12, _, _, top 25, Fn.law_system, _, _, _, PySem.W.mg_of X G a12, F12, B12, rfl, rfl, ok12⟩
    have F11 := fun_mk (st := top 24) l11 c11 k11
    have B11 : Binds K _ ["box", "many"] [] := F11.binds fun _ _ _ _ _ _ us hl => match us, hl with | [_, _], _ => rfl
    have d11 : PDef K mg g sg fs 25 ("_law_subset", 2) := ⟨f11, _, _, top 24, Fn.law_subset, _, _, _, PySem.W.mg_of X G a11, F11, B11, rfl, rfl, ok11⟩
    have F10 := fun_mk (st := top 31) l10 c10 k10
    have B10 : Binds K _ ["s", "n"] [] := F10.binds fun _ _ _ _ _ _ us hl => match us, hl with | [_, _], _ => rfl
    have d10 : PDef K mg g sg fs 24 ("_law_told", 2) := ⟨f10, _, _, top 31, Fn.law_told_2, _, _, _, PySem.W.mg_of X G a10, F10, B10, rfl, rfl, ok10⟩
    have F9 := fun_mk (st := top 19) l9 c9 k9
    have B9 : Binds K _ ["s", "n"] [] := F9.binds fun _ _ _ _ _ _ us hl => match us, hl with | [_, _], _ => rfl
    have d9 : PDef K mg g sg fs 23 ("paths", 2) := ⟨f9, _, _, top 19, Fn.paths, _, _, _, PySem.W.mg_of X G a9, F9, B9, rfl, rfl, ok9⟩
    have F8 := fun_mk (st := top 16) l8 c8 k8
    have B8 : Binds K _ ["s"] [] := F8.binds fun _ _ _ _ _ _ us hl => match us, hl with | [_], _ => rfl
    have d8 : PDef K mg g sg fs 22 ("check_system", 1) := ⟨f8, _, _, top 16, Fn.check_system, _, _, _, PySem.W.mg_of X G a8, F8, B8, rfl, rfl, ok8⟩
    have F7 := fun_mk (st := top 15) l7 c7 k7
    have B7 : Binds K _ ["s"] [] := F7.binds fun _ _ _ _ _ _ us hl => match us, hl with | [_], _ => rfl
    have d7 : PDef K mg g sg fs 21 ("is_system", 1) := ⟨f7, _, _, top 15, Fn.is_system, _, _, _, PySem.W.mg_of X G a7, F7, B7, rfl, rfl, ok7⟩
    have F6 := fun_mk (st := top 10) l6 c6 k6
    have B6 : Binds K _ ["x", "many"] [] := F6.binds fun _ _ _ _ _ _ us hl => match us, hl with | [_, _], _ => rfl
    have d6 : PDef K mg g sg fs 20 ("is_rising", 2) := ⟨f6, _, _, top 10, Fn.is_rising, _, _, _, PySem.W.mg_of X G a6, F6, B6, rfl, rfl, ok6⟩
    have F5 := fun_mk (st := top 9) l5 c5 k5
    have B5 : Binds K _ ["x", "low", "high"] [] := F5.binds fun _ _ _ _ _ _ us hl => match us, hl with | [_, _, _], _ => rfl
    have d5 : PDef K mg g sg fs 5 ("is_within", 3) := ⟨f5, _, _, top 9, Fn.is_within, _, _, _, PySem.W.mg_of X G a5, F5, B5, rfl, rfl, ok5⟩
    have F4 := fun_mk (st := top 8) l4 c4 k4
    have B4 : Binds K _ ["x"] [] := F4.binds fun _ _ _ _ _ _ us hl => match us, hl with | [_], _ => rfl
    have d4 : PDef K mg g sg fs 4 ("is_whole", 1) := ⟨f4, _, _, top 8, Fn.is_whole, _, _, _, PySem.W.mg_of X G a4, F4, B4, rfl, rfl, ok4⟩
    have F3 := fun_mk (st := top 30) l3 c3 k3
    have B3 : Binds K _ ["x"] [] := F3.binds fun _ _ _ _ _ _ us hl => match us, hl with | [_], _ => rfl
    have d3 : PDef K mg g sg fs 19 ("_law_said", 1) := ⟨f3, _, _, top 30, Fn.law_said_2, _, _, _, PySem.W.mg_of X G a3, F3, B3, rfl, rfl, ok3⟩
    have F2 := fun_mk (st := top 23) l2 c2 k2
    have B2 : Binds K _ ["box", "menu"] [] := F2.binds fun _ _ _ _ _ _ us hl => match us, hl with | [_, _], _ => rfl
    have d2 : PDef K mg g sg fs 2 ("_law_pick", 2) := ⟨f2, _, _, top 23, Fn.law_pick, _, _, _, PySem.W.mg_of X G a2, F2, B2, rfl, rfl, ok2⟩
    have F1 := fun_mk (st := top 22) l1 c1 k1
    have B1 : Binds K _ ["box", "m"] [] := F1.binds fun _ _ _ _ _ _ us hl => match us, hl with | [_, _], _ => rfl
    have d1 : PDef K mg g sg fs 1 ("_law_take", 2) := ⟨f1, _, _, top 22, takeF, _, _, _, PySem.W.mg_of X G a1, F1, B1, rfl, rfl, ok1⟩
    have F0 := fun_mk (st := top 21) l0 c0 k0
    have B0 : Binds K _ ["script"] [] := F0.binds fun _ _ _ _ _ _ us hl => match us, hl with | [_], _ => rfl
    have d0 : PDef K mg g sg fs 0 ("_law_box", 1) := ⟨f0, _, _, top 21, boxF, _, _, _, PySem.W.mg_of X G a0, F0, B0, rfl, rfl, ok0⟩
    exact (@assoc_cons _ _ (PDef K mg g sg fs) _ _ _ d0 (@assoc_cons _ _ (PDef K mg g sg fs) _ _ _ d1 (@assoc_cons _ _ (PDef K mg g sg fs) _ _ _ d2 (@assoc_cons _ _ (PDef K mg g sg fs) _ _ _ d3 (@assoc_cons _ _ (PDef K mg g sg fs) _ _ _ d4 (@assoc_cons _ _ (PDef K mg g sg fs) _ _ _ d5 (@assoc_cons _ _ (PDef K mg g sg fs) _ _ _ d6 (@assoc_cons _ _ (PDef K mg g sg fs) _ _ _ d7 (@assoc_cons _ _ (PDef K mg g sg fs) _ _ _ d8 (@assoc_cons _ _ (PDef K mg g sg fs) _ _ _ d9 (@assoc_cons _ _ (PDef K mg g sg fs) _ _ _ d10 (@assoc_cons _ _ (PDef K mg g sg fs) _ _ _ d11 (@assoc_cons _ _ (PDef K mg g sg fs) _ _ _ d12 (@assoc_cons _ _ (PDef K mg g sg fs) _ _ _ d13 (@assoc_cons _ _ (PDef K mg g sg fs) _ _ _ d14 (@assoc_cons _ _ (PDef K mg g sg fs) _ _ _ d15 (@assoc_cons _ _ (PDef K mg g sg fs) _ _ _ d16 (@assoc_cons _ _ (PDef K mg g sg fs) _ _ _ d17 (@assoc_cons _ _ (PDef K mg g sg fs) _ _ _ d18 assoc_nil)))))))))))))))))))
  · exact mem_of (P := PExc K mg) (@mem_cons (PExc K mg) _ _ ⟨e0, PySem.W.mg_of X G ge0, xa0, xb0, xc0, xd0⟩ (@mem_cons (PExc K mg) _ _ ⟨e1, PySem.W.mg_of X G ge1, xa1, xb1, xc1, xd1⟩ mem_nil)) x e
  · cases hp2
    have CF := fun base => cls_fn (P := P) (w := w) (base := base) (mg := mg) (cs := ["BadSystem", "BadWatcher", "BadQuestion", "BadPath", "TooMuch"]) (ns := ["system", "watcher", "question", "path", "much"]) (fun_mk (st := top 27) l900 c900 k900) ⟨rfl, rfl, rfl, by decide +kernel, rfl, by decide +kernel, by decide +kernel⟩ (by decide +kernel) (PySem.W.mg_none_of X G z3) (PySem.W.mg_none_of X G z11) (PySem.W.mg_none_of X G z5)
    exact mem_of (P := PTry P w K mg sg "_law_class") (@mem_cons (PTry P w K mg sg "_law_class") _ _ ⟨e2, f900, _, _, PySem.W.mg_of X G ge2, ⟨fun c b hb => (assoc_all (P := PSub K mg "ParallaxError" e2) (l := sg.sub) (@assoc_cons _ _ (PSub K mg "ParallaxError" e2) _ _ _ (fun _ C hC => by
      rw [PySem.W.mg_of X G ge0] at hC
      cases hC
      exact s0_2) (@assoc_cons _ _ (PSub K mg "ParallaxError" e2) _ _ _ (fun _ C hC => by
      rw [PySem.W.mg_of X G ge1] at hC
      cases hC
      exact s1_2) assoc_nil)) hb) rfl, fun c t ht => assoc_all (P := PTab K mg ["BadSystem", "BadWatcher", "BadQuestion", "BadPath", "TooMuch"] ["system", "watcher", "question", "path", "much"]) (l := sg.tab) (@assoc_cons _ _ (PTab K mg ["BadSystem", "BadWatcher", "BadQuestion", "BadPath", "TooMuch"] ["system", "watcher", "question", "path", "much"]) _ _ _ (fun C hC => by
      rw [PySem.W.mg_of X G ge0] at hC
      cases hC
      exact ⟨⟨ya0, yb0, xc0, yd0, ye0, yf0, yg0, yh0⟩, yw0, yv0, [true, false, false, false, false], 0, ⟨⟨e0, PySem.W.mg_of X G ge0, i0_0⟩, ⟨⟨e3, PySem.W.mg_of X G ge3, i0_1⟩, ⟨⟨e4, PySem.W.mg_of X G ge4, i0_2⟩, ⟨⟨e5, PySem.W.mg_of X G ge5, i0_3⟩, ⟨⟨e1, PySem.W.mg_of X G ge1, i0_4⟩, trivial⟩⟩⟩⟩⟩, cls_t (by decide +kernel)⟩) (@assoc_cons _ _ (PTab K mg ["BadSystem", "BadWatcher", "BadQuestion", "BadPath", "TooMuch"] ["system", "watcher", "question", "path", "much"]) _ _ _ (fun C hC => by
      rw [PySem.W.mg_of X G ge1] at hC
      cases hC
      exact ⟨⟨ya1, yb1, xc1, yd1, ye1, yf1, yg1, yh1⟩, yw1, yv1, [false, false, false, false, true], 4, ⟨⟨e0, PySem.W.mg_of X G ge0, i1_0⟩, ⟨⟨e3, PySem.W.mg_of X G ge3, i1_1⟩, ⟨⟨e4, PySem.W.mg_of X G ge4, i1_2⟩, ⟨⟨e5, PySem.W.mg_of X G ge5, i1_3⟩, ⟨⟨e1, PySem.W.mg_of X G ge1, i1_4⟩, trivial⟩⟩⟩⟩⟩, cls_t (by decide +kernel)⟩) assoc_nil)) ht⟩, CF, PySem.W.mg_of X G a900, k900, (fun_mk (st := top 27) l900 c900 k900).binds fun _ _ _ _ _ _ us hl => match us, hl with | [_], _ => rfl⟩ mem_nil) x hp1
end LawT
end

section
open PySem PySem.Spec PyProof.Rows L2 RF
namespace LawT
variable {n : Nat}
abbrev CL (n : Nat) := run sg fs (n + 1 + 1 + 1 + 1 + 1 + 1 + 1)
theorem said_ok {L : List (List Int)} : ∃ o, run sg fs (n + 1) 19 [.ow (mat L)] = .ok (.ow (mat L), [o]) := by
  refine ⟨_, run_rt (F := Fn.law_said_2) (e := [.mv, .ow (.lst [.str "several", .str "system", .str "watcher", .str "question", .str "path", .str "much"])]) rfl ?_ rfl⟩
  show ev sg (run sg fs n) Fn.law_said_2.b [.ow (mat L), .un] = _
  have i1 : isiD (mat L) "str" = some false := rfl
  have i2 : isiD (mat L) "tuple" = some false := rfl
  have l6 : 6 ≤ sizeLine := sz (by decide)
  generalize mat L = M at i1 i2 ⊢
  unfold Fn.law_said_2.b Fn.law_said_2.s0 Fn.law_said_2.s1
  simp only [ev, ↓Res.bind_hide, Res.bindC_ok, Res.bindC_ex, flOf_fl, tstOf_bl, argsOf_args, valOf_val, itsOf_its, List.getElem?_cons_zero, List.getElem?_cons_succ, look_nil, look_vl, look_nm, hand_nil, hand_vl, hand_nm, handM_sh, handM_ow, once_nil, once_vl, once_nm, onceM_sh, onceM_ow, isNm, List.any_nil, List.any_cons, back_nil, back_vl, back_nm, backM_sh, backM_ow, vals_nil, vals_vl, d_sh, d_ow, down_sh, down_ow, Option.bind_some, Option.map_some, pIx_0, pIx_4, ixN_4, cop_eq, cop_ne, cop_gt, cop_lt, cop_le, cop_ge, ofO_some, bop_add, bop_sub, uop_sub, pow18, blt_int, blt_len, blt_abs, blt_list, blt_isi, decide_eq_true_eq, ↓reduceIte, decide_false, decide_true, Bool.false_eq_true, List.length_cons, List.length_nil, Nat.zero_add, Nat.reduceAdd, Nat.reduceLeDiff, Nat.reduceEqDiff, Nat.reduceBEq, List.set_cons_zero, List.set_cons_succ, Nat.reduceLT, Bool.not_true, Bool.not_false, Bool.or_false, Bool.false_or, Bool.and_true, Bool.true_and, beq_self_eq_true, eq_self, ↓ev_seqK, seqK_nx, seqK_rt, seqK_bk, seqK_ct, seqK_ex, tr_bl, Rt_ok, isT_tup, valOf_ex, argsOf_ex, tstOf_ex, flOf_ex, itsOf_ex, pT0, pT1, Int.reduceEq, Int.reduceLT, Int.reduceLE, i1, i2, l6] <;> rfl
theorem told_ok {c : Int} {a : List Int} {ss : List (Int × List Int)} (h : SysOk c a ss) (ha : a.length ≤ 1000) {N : Nat} (hN : N ≤ 100) (hz : ∀ k ≤ N, (pth a ss k).length ≤ 100000) (hb : ¬ 5000 < (pth a ss N).length) :
    run sg fs (n + 1 + 1 + 1 + 1 + 1 + 1 + 1) 24 [.sh (sysD c a ss), .sh (.int ((N : Int) + 1))] = .ok (.ow (mat (pth a ss N)), [.sh (sysD c a ss), .sh (.int ((N : Int) + 1))]) := by
  have h1 := run_paths (G := sg) (fs := fs) (n := n) h ha hN hz
  rw [if_neg hb] at h1
  obtain ⟨os, h2⟩ := said_ok (n := n + 1 + 1 + 1 + 1 + 1) (L := pth a ss N)
  refine run_rt (F := Fn.law_told_2) (e := [.sh (sysD c a ss), .sh (.int ((N : Int) + 1)), .un]) rfl ?_ rfl
  show ev sg (run sg fs (n + 1 + 1 + 1 + 1 + 1 + 1)) Fn.law_told_2.b [.sh (sysD c a ss), .sh (.int ((N : Int) + 1)), .un] = _
  generalize mat (pth a ss N) = M at h1 h2 ⊢
  generalize sysD c a ss = S at h1 ⊢
  unfold Fn.law_told_2.b
  simp only [ev, ↓Res.bind_hide, Res.bindC_ok, Res.bindC_ex, flOf_fl, tstOf_bl, argsOf_args, valOf_val, itsOf_its, List.getElem?_cons_zero, List.getElem?_cons_succ, look_nil, look_vl, look_nm, hand_nil, hand_vl, hand_nm, handM_sh, handM_ow, once_nil, once_vl, once_nm, onceM_sh, onceM_ow, isNm, List.any_nil, List.any_cons, back_nil, back_vl, back_nm, backM_sh, backM_ow, vals_nil, vals_vl, d_sh, d_ow, down_sh, down_ow, Option.bind_some, Option.map_some, pIx_0, pIx_4, ixN_4, cop_eq, cop_ne, cop_gt, cop_lt, cop_le, cop_ge, ofO_some, bop_add, bop_sub, uop_sub, pow18, blt_int, blt_len, blt_abs, blt_list, blt_isi, decide_eq_true_eq, ↓reduceIte, decide_false, decide_true, Bool.false_eq_true, List.length_cons, List.length_nil, Nat.zero_add, Nat.reduceAdd, Nat.reduceLeDiff, Nat.reduceEqDiff, Nat.reduceBEq, List.set_cons_zero, List.set_cons_succ, Nat.reduceLT, Bool.not_true, Bool.not_false, Bool.or_false, Bool.false_or, Bool.and_true, Bool.true_and, beq_self_eq_true, eq_self, ↓ev_seqK, seqK_nx, seqK_rt, seqK_bk, seqK_ct, seqK_ex, tr_bl, Rt_ok, isT_tup, valOf_ex, argsOf_ex, tstOf_ex, flOf_ex, itsOf_ex, pT0, pT1, Int.reduceEq, Int.reduceLT, Int.reduceLE, h1, h2, caught] <;> rfl
theorem told_much {c : Int} {a : List Int} {ss : List (Int × List Int)} (h : SysOk c a ss) (ha : a.length ≤ 1000) {N : Nat} (hN : N ≤ 100) (hz : ∀ k ≤ N, (pth a ss k).length ≤ 100000) (hb : 5000 < (pth a ss N).length) :
    run sg fs (n + 1 + 1 + 1 + 1 + 1 + 1 + 1) 24 [.sh (sysD c a ss), .sh (.int ((N : Int) + 1))] = .ok (.sh (.tup [.str "refused", .str "much"]), [.sh (sysD c a ss), .sh (.int ((N : Int) + 1))]) := by
  have h1 := run_paths (G := sg) (fs := fs) (n := n) h ha hN hz
  rw [if_pos hb] at h1
  refine run_sh (F := Fn.law_told_2) rfl rfl ?_
  show Rt (ev sg (run sg fs (n + 1 + 1 + 1 + 1 + 1 + 1)) Fn.law_told_2.b [.sh (sysD c a ss), .sh (.int ((N : Int) + 1)), .un]) _
  have hs : sg.sub.lookup (("TooMuch" : Str), ("ParallaxError" : Str)) = some true := by decide +kernel
  have ht : sg.tab.lookup ("TooMuch" : Str) = some ("much" : Str) := by decide +kernel
  generalize sysD c a ss = S at h1 ⊢
  unfold Fn.law_told_2.b
  simp only [ev, ↓Res.bind_hide, Res.bindC_ok, Res.bindC_ex, flOf_fl, tstOf_bl, argsOf_args, valOf_val, itsOf_its, List.getElem?_cons_zero, List.getElem?_cons_succ, look_nil, look_vl, look_nm, hand_nil, hand_vl, hand_nm, handM_sh, handM_ow, once_nil, once_vl, once_nm, onceM_sh, onceM_ow, isNm, List.any_nil, List.any_cons, back_nil, back_vl, back_nm, backM_sh, backM_ow, vals_nil, vals_vl, d_sh, d_ow, down_sh, down_ow, Option.bind_some, Option.map_some, pIx_0, pIx_4, ixN_4, cop_eq, cop_ne, cop_gt, cop_lt, cop_le, cop_ge, ofO_some, bop_add, bop_sub, uop_sub, pow18, blt_int, blt_len, blt_abs, blt_list, blt_isi, decide_eq_true_eq, ↓reduceIte, decide_false, decide_true, Bool.false_eq_true, List.length_cons, List.length_nil, Nat.zero_add, Nat.reduceAdd, Nat.reduceLeDiff, Nat.reduceEqDiff, Nat.reduceBEq, List.set_cons_zero, List.set_cons_succ, Nat.reduceLT, Bool.not_true, Bool.not_false, Bool.or_false, Bool.false_or, Bool.and_true, Bool.true_and, beq_self_eq_true, eq_self, ↓ev_seqK, seqK_nx, seqK_rt, seqK_bk, seqK_ct, seqK_ex, tr_bl, Rt_ok, isT_tup, valOf_ex, argsOf_ex, tstOf_ex, flOf_ex, itsOf_ex, pT0, pT1, Int.reduceEq, Int.reduceLT, Int.reduceLE, h1, caught, hs, ht] <;> rfl
/-! others -/
theorem sl_to {w : List Int} {k : Nat} {i : Int} (h : k ≤ w.length) (hi : i = k) : pSl (iT w) none (some i) = some (.sh (iT (w.take k))) := by
  subst hi
  show some (Sl.sh (.tup (cutL (w.map D.int) none (some (k : Int))))) = _
  rw [cut_to (by rw [List.length_map]; exact h), ← List.map_take]
theorem sl_from {w : List Int} {k : Nat} {i : Int} (h : k ≤ w.length) (hi : i = k) : pSl (iT w) (some i) none = some (.sh (iT (w.drop k))) := by
  subst hi
  show some (Sl.sh (.tup (cutL (w.map D.int) (some (k : Int)) none))) = _
  rw [cut_from (by rw [List.length_map]; exact h), ← List.map_drop]
theorem add_iT {u v : List Int} (h : u.length + v.length ≤ 100000) : pBop .Add (iT u) (iT v) = some (.sh (iT (u ++ v))) := by
  rw [add_tup (by rw [List.length_map, List.length_map]; exact sz h)]
  show some (Sl.sh (.tup (u.map D.int ++ v.map D.int))) = some (Sl.sh (.tup ((u ++ v).map D.int)))
  rw [List.map_append]
theorem ne_bl {b : Bool} : pCop .NotEq (.bl b) (.bl b) = some false := by
  rw [cop_neD pl_bl pl_bl]
  show some (!(b == b)) = _
  rw [beq_self_eq_true]; rfl
theorem law_f0 {c : Int} {a : List Int} {ss : List (Int × List Int)} (h : SysOk c a ss) {w : List Int} (hw : w.length ≤ 100) {k : Nat} (hk : k < w.length) {B : Box} (hB : B.Ok) {y0 y2 y6 y7 y8 y9 y10 y11 y12 y13 y14 y15 : Sl} :
    ∃ B' z6 z7, ev sg (CL n) Fn.law_2.f0 [y0, B.sl, y2, .sh (sysD c a ss), .sh (iT w), .sh (.int k), y6, y7, y8, y9, y10, y11, y12, y13, y14, y15] = .ok (.fl .nx, [y0, Box.sl B', y2, .sh (sysD c a ss), .sh (iT w), .sh (.int k), z6, z7, y8, y9, y10, y11, y12, y13, y14, y15]) ∧ B'.Ok := by
  obtain ⟨t1, B1, h1, d1⟩ := run_take (G := sg) (fs := fs) (n := n + 1 + 1 + 1 + 1 + 1 + 1) (j := 1) rfl (m := 7) hB (by decide) (by decide)
  obtain ⟨t2, B2, h2, d2⟩ := run_take (G := sg) (fs := fs) (n := n + 1 + 1 + 1 + 1 + 1 + 1) (j := 1) rfl (m := 6) d1.ok (by decide) (by decide)
  obtain ⟨t3, B3, h3, d3⟩ := run_take (G := sg) (fs := fs) (n := n + 1 + 1 + 1 + 1 + 1 + 1) (j := 1) rfl (m := 6) d2.ok (by decide) (by decide)
  obtain ⟨kI, hkI⟩ : ∃ kI : Int, kI = (k : Int) := ⟨_, rfl⟩
  rw [← hkI]
  obtain ⟨l, hl⟩ : ∃ l : Int, l = (ss.length : Int) := ⟨_, rfl⟩
  have e1 := sl_to (w := w) (k := k) (i := kI) (by omega) hkI
  have e2 := sl_from (w := w) (k := k) (i := kI) (by omega) hkI
  have e3 := sl_from (w := w) (k := k + 1) (i := kI + 1) (by omega) (by omega)
  have lk : (w.take k).length ≤ 100 := by rw [List.length_take]; omega
  have ld : (w.drop k).length ≤ 100 := by rw [List.length_drop]; omega
  have ld1 : (w.drop (k + 1)).length ≤ 100 := by rw [List.length_drop]; omega
  have a1 : pBop .Add (iT (w.take k)) (.tup [.int (t1 - 1)]) = some (.sh (iT (w.take k ++ [t1 - 1]))) := add_iT (v := [t1 - 1]) (by show _ + 1 ≤ _; omega)
  have a2 : pBop .Add (iT (w.take k ++ [t1 - 1])) (iT (w.drop (k + 1))) = some (.sh (iT (w.take k ++ [t1 - 1] ++ w.drop (k + 1)))) := add_iT (by rw [List.length_append]; show _ + 1 + _ ≤ _; omega)
  have a3 : pBop .Add (iT (w.take k)) (.tup [.int t2]) = some (.sh (iT (w.take k ++ [t2]))) := add_iT (v := [t2]) (by show _ + 1 ≤ _; omega)
  have a4 : pBop .Add (iT (w.take k ++ [t2])) (iT (w.drop k)) = some (.sh (iT (w.take k ++ [t2] ++ w.drop k))) := add_iT (by rw [List.length_append]; show _ + 1 + _ ≤ _; omega)
  have a5 : pBop .Add (iT w) (.tup [.int t3]) = some (.sh (iT (w ++ [t3]))) := add_iT (v := [t3]) (by show _ + 1 ≤ _; omega)
  have i2 : pIx (sysD c a ss) (.int 2) = some (.sh (.tup (ss.map stD))) := rfl
  have hlen : pBlt .len [.tup (ss.map stD)] = some (.sh (.int l)) := by rw [blt_lenT, List.length_map, hl]
  have l1 : 1 ≤ sizeLine := sz (by decide)
  have l7 : 7 ≤ sizeLine := sz (by decide)
  have hO : ∀ d ∈ [iT (w.take k), iT (w.drop k), iT (w.take k ++ [t1 - 1] ++ w.drop (k + 1)), iT (w.take k ++ [t2] ++ w.drop k), iT (w ++ [t3]), iT [l], iT [-1]], ∃ o : List Int, d = iT o ∧ o.length ≤ 1000 := by
    intro d hd
    simp only [List.mem_cons, List.not_mem_nil, or_false] at hd
    rcases hd with rfl | rfl | rfl | rfl | rfl | rfl | rfl
    · exact ⟨_, rfl, by omega⟩
    · exact ⟨_, rfl, by omega⟩
    · exact ⟨_, rfl, by rw [List.length_append, List.length_append]; show _ + 1 + _ ≤ _; omega⟩
    · exact ⟨_, rfl, by rw [List.length_append, List.length_append]; show _ + 1 + _ ≤ _; omega⟩
    · exact ⟨_, rfl, by rw [List.length_append]; show _ + 1 ≤ _; omega⟩
    · exact ⟨_, rfl, by show 1 ≤ 1000; decide⟩
    · exact ⟨_, rfl, by show 1 ≤ 1000; decide⟩
  have step : ∀ d, (∃ o : List Int, d = iT o ∧ o.length ≤ 1000) → ∀ (z7 : Sl), ∃ w7, ev sg (CL n) (.seq (.asg (.tN 7) (.call 30 (.argN 3 (.argN 6 .nilE)))) (.seq (.ifS (.tor (.tnot (.tv (.blt .isinstance (.argN 7 (.consE (.bty "bool") .nilE))))) (.tcp .NotEq (.argN 7 (.consE (.call 31 (.argN 3 (.argN 6 .nilE))) .nilE)))) (.seq (.ret (.cB false)) .skip) .skip) .skip)) [y0, Box.sl B3, y2, .sh (sysD c a ss), .sh (iT w), .sh (.int kI), .sh d, z7, y8, y9, y10, y11, y12, y13, y14, y15] = .ok (.fl .nx, [y0, Box.sl B3, y2, .sh (sysD c a ss), .sh (iT w), .sh (.int kI), .sh d, w7, y8, y9, y10, y11, y12, y13, y14, y15]) := by
    intro d ⟨o, e, ho⟩ z7
    subst e
    have q1 := run_is_path (G := sg) (fs := fs) (n := n + 1) (w := o) h ho
    have q2 := run_law_is (G := sg) (fs := fs) (n := n + 1 + 1 + 1 + 1 + 1 + 1) (c := c) (a := a) (ss := ss) (w := o) ho
    refine ⟨.sh (.bl (isP a ss o)), ?_⟩
    have ib := (isi_bl (b := isP a ss o)).1
    generalize isP a ss o = b at q1 q2 ib ⊢
    generalize iT o = O at q1 q2 ⊢
    generalize iT w = W
    generalize sysD c a ss = S at q1 q2 ⊢
    simp only [ev, ↓Res.bind_hide, Res.bindC_ok, Res.bindC_ex, flOf_fl, tstOf_bl, argsOf_args, valOf_val, itsOf_its, List.getElem?_cons_zero, List.getElem?_cons_succ, look_nil, look_vl, look_nm, hand_nil, hand_vl, hand_nm, handM_sh, handM_ow, once_nil, once_vl, once_nm, onceM_sh, onceM_ow, isNm, List.any_nil, List.any_cons, back_nil, back_vl, back_nm, backM_sh, backM_ow, vals_nil, vals_vl, d_sh, d_ow, down_sh, down_ow, Option.bind_some, Option.map_some, pIx_0, pIx_4, ixN_4, cop_eq, cop_ne, cop_gt, cop_lt, cop_le, cop_ge, ofO_some, bop_add, bop_sub, uop_sub, pow18, blt_int, blt_len, blt_abs, blt_list, blt_isi, decide_eq_true_eq, ↓reduceIte, decide_false, decide_true, Bool.false_eq_true, List.length_cons, List.length_nil, Nat.zero_add, Nat.reduceAdd, Nat.reduceLeDiff, Nat.reduceEqDiff, Nat.reduceBEq, List.set_cons_zero, List.set_cons_succ, Nat.reduceLT, Bool.not_true, Bool.not_false, Bool.or_false, Bool.false_or, Bool.and_true, Bool.true_and, beq_self_eq_true, eq_self, ↓ev_seqK, seqK_nx, seqK_rt, seqK_bk, seqK_ct, seqK_ex, tr_bl, Rt_ok, isT_tup, valOf_ex, argsOf_ex, tstOf_ex, flOf_ex, itsOf_ex, pT0, pT1, Int.reduceEq, Int.reduceLT, Int.reduceLE, q1, q2, ib, ne_bl] <;> rfl
  have hit : ev sg (CL n) (.itV (.lstE (.consE (.sle false true (.argN 4 (.argN 5 .nilE))) (.consE (.sle true false (.argN 4 (.argN 5 .nilE))) (.consE (.bop .Add (.consE (.bop .Add (.consE (.sle false true (.argN 4 (.argN 5 .nilE))) (.consE (.tupE (.consE (.bop .Sub (.consE (.call 1 (.argN 1 (.consE (.cI 7) .nilE))) (.consE (.cI 1) .nilE))) .nilE)) .nilE))) (.consE (.sle true false (.argN 4 (.consE (.bop .Add (.argN 5 (.consE (.cI 1) .nilE))) .nilE))) .nilE))) (.consE (.bop .Add (.consE (.bop .Add (.consE (.sle false true (.argN 4 (.argN 5 .nilE))) (.consE (.tupE (.consE (.call 1 (.argN 1 (.consE (.cI 6) .nilE))) .nilE)) .nilE))) (.consE (.sle true false (.argN 4 (.argN 5 .nilE))) .nilE))) (.consE (.bop .Add (.argN 4 (.consE (.tupE (.consE (.call 1 (.argN 1 (.consE (.cI 6) .nilE))) .nilE)) .nilE))) (.consE (.tupE (.consE (.blt .len (.consE (.ixe (.argN 3 (.consE (.cI 2) .nilE))) .nilE)) .nilE)) (.consE (.tupE (.consE (.uop .USub (.consE (.cI 1) .nilE)) .nilE)) .nilE))))))))) [y0, B.sl, y2, .sh (sysD c a ss), .sh (iT w), .sh (.int kI), y6, y7, y8, y9, y10, y11, y12, y13, y14, y15] = .ok (.its [iT (w.take k), iT (w.drop k), iT (w.take k ++ [t1 - 1] ++ w.drop (k + 1)), iT (w.take k ++ [t2] ++ w.drop k), iT (w ++ [t3]), iT [l], iT [-1]], [y0, B3.sl, y2, .sh (sysD c a ss), .sh (iT w), .sh (.int kI), y6, y7, y8, y9, y10, y11, y12, y13, y14, y15]) := by
    have hs : ∀ xs : List D, seqOf (.lst xs) = some xs := fun _ => rfl
    show _ = Res.ok (Out.its [iT (w.take k), iT (w.drop k), iT (w.take k ++ [t1 - 1] ++ w.drop (k + 1)), iT (w.take k ++ [t2] ++ w.drop k), iT (w ++ [t3]), .tup [.int l], .tup [.int (-1)]], _)
    generalize iT (w.take k ++ [t1 - 1] ++ w.drop (k + 1)) = O3 at a2 ⊢
    generalize iT (w.take k ++ [t1 - 1]) = O3' at a1 a2
    generalize iT (w.take k ++ [t2] ++ w.drop k) = O4 at a4 ⊢
    generalize iT (w.take k ++ [t2]) = O4' at a3 a4
    generalize iT (w ++ [t3]) = O5 at a5 ⊢
    generalize iT (w.take k) = O1 at e1 a1 a3 ⊢
    generalize iT (w.drop k) = O2 at e2 a4 ⊢
    generalize iT (w.drop (k + 1)) = O2' at e3 a2
    generalize iT w = W at e1 e2 e3 a5 ⊢
    generalize sysD c a ss = S at i2 ⊢
    generalize D.tup (ss.map stD) = T at i2 hlen
    simp only [ev, ↓Res.bind_hide, Res.bindC_ok, Res.bindC_ex, flOf_fl, tstOf_bl, argsOf_args, valOf_val, itsOf_its, List.getElem?_cons_zero, List.getElem?_cons_succ, look_nil, look_vl, look_nm, hand_nil, hand_vl, hand_nm, handM_sh, handM_ow, once_nil, once_vl, once_nm, onceM_sh, onceM_ow, isNm, List.any_nil, List.any_cons, back_nil, back_vl, back_nm, backM_sh, backM_ow, vals_nil, vals_vl, d_sh, d_ow, down_sh, down_ow, Option.bind_some, Option.map_some, pIx_0, pIx_4, ixN_4, cop_eq, cop_ne, cop_gt, cop_lt, cop_le, cop_ge, ofO_some, bop_add, bop_sub, uop_sub, pow18, blt_int, blt_len, blt_abs, blt_list, blt_isi, decide_eq_true_eq, ↓reduceIte, decide_false, decide_true, Bool.false_eq_true, List.length_cons, List.length_nil, Nat.zero_add, Nat.reduceAdd, Nat.reduceLeDiff, Nat.reduceEqDiff, Nat.reduceBEq, List.set_cons_zero, List.set_cons_succ, Nat.reduceLT, Bool.not_true, Bool.not_false, Bool.or_false, Bool.false_or, Bool.and_true, Bool.true_and, beq_self_eq_true, eq_self, ↓ev_seqK, seqK_nx, seqK_rt, seqK_bk, seqK_ct, seqK_ex, tr_bl, Rt_ok, isT_tup, valOf_ex, argsOf_ex, tstOf_ex, flOf_ex, itsOf_ex, pT0, pT1, Int.reduceEq, Int.reduceLT, Int.reduceLE, h1, h2, h3, e1, e2, e3, a1, a2, a3, a4, a5, i2, hlen, l1, l7, hs] <;> rfl
  have key := forL_inv (step := fSt sg (CL n) (.tN 6) (.seq (.asg (.tN 7) (.call 30 (.argN 3 (.argN 6 .nilE)))) (.seq (.ifS (.tor (.tnot (.tv (.blt .isinstance (.argN 7 (.consE (.bty "bool") .nilE))))) (.tcp .NotEq (.argN 7 (.consE (.call 31 (.argN 3 (.argN 6 .nilE))) .nilE)))) (.seq (.ret (.cB false)) .skip) .skip) .skip)))
    (P := fun ds e => (∀ d ∈ ds, ∃ o : List Int, d = iT o ∧ o.length ≤ 1000) ∧ ∃ z6 z7, e = [y0, Box.sl B3, y2, .sh (sysD c a ss), .sh (iT w), .sh (.int kI), z6, z7, y8, y9, y10, y11, y12, y13, y14, y15]) (fun d r e ⟨hd, z6, z7, he⟩ => by
      subst he
      obtain ⟨w7, q⟩ := step d (hd d List.mem_cons_self) z7
      exact ⟨_, q, fun x hx => hd x (List.mem_cons_of_mem _ hx), _, _, rfl⟩) (⟨hO, y6, y7, rfl⟩ : (∀ d ∈ [iT (w.take k), iT (w.drop k), iT (w.take k ++ [t1 - 1] ++ w.drop (k + 1)), iT (w.take k ++ [t2] ++ w.drop k), iT (w ++ [t3]), iT [l], iT [-1]], ∃ o : List Int, d = iT o ∧ o.length ≤ 1000) ∧ ∃ z6 z7, [y0, Box.sl B3, y2, .sh (sysD c a ss), .sh (iT w), .sh (.int kI), y6, y7, y8, y9, y10, y11, y12, y13, y14, y15] = [y0, Box.sl B3, y2, .sh (sysD c a ss), .sh (iT w), .sh (.int kI), z6, z7, y8, y9, y10, y11, y12, y13, y14, y15])
  obtain ⟨e', k1, _, z6, z7, rfl⟩ := key
  refine ⟨B3, z6, z7, ?_, d3.ok⟩
  unfold Fn.law_2.f0
  rw [ev_forS hit]
  exact k1
theorem ne_str {t : Str} (h : PyData.strOk t = true) : pCop .NotEq (.str t) (.str t) = some false := by
  have h0 : D.pl deepest (.str t) = true := h
  rw [cop_neD h0 h0]
  show some (!(t == t)) = _
  rw [beq_self_eq_true]; rfl
theorem add_mat {L M : List (List Int)} (h : L.length + M.length ≤ 100000) : pBop .Add (mat L) (mat M) = some (.ow (mat (L ++ M))) := by
  show (if (L.map iT).length + (M.map iT).length ≤ sizeLine then some (Sl.ow (.lst (L.map iT ++ M.map iT))) else none) = _
  rw [List.length_map, List.length_map, if_pos (sz h)]
  show _ = some (Sl.ow (.lst ((L ++ M).map iT)))
  rw [List.map_append]
theorem pow3 {k : Nat} (h : k ≤ 4) : 3 ^ (k + 1) ≤ 243 := by
  have := Nat.pow_le_pow_right (n := 3) (by decide) (show k + 1 ≤ 5 by omega)
  exact this
theorem pth_few {c : Int} {a : List Int} {ss : List (Int × List Int)} (hf : Few a ss) {k : Nat} (hk : k ≤ 4) : (pth a ss k).length ≤ 243 := Nat.le_trans (pth_len hf.st hf.nx k) (pow3 hk)
theorem pth_sm {c : Int} {a : List Int} {ss : List (Int × List Int)} (h : SysOk c a ss) {k : Nat} (hk : k ≤ 4) : ∀ w ∈ pth a ss k, SmT w := fun w hw => by
  obtain ⟨h1, h2⟩ := pth_ok h k w hw
  have := h.s1
  exact ⟨by omega, fun x hx => ⟨(h1.rg x hx).1, by have := (h1.rg x hx).2; omega⟩⟩
/-- the second half of a turn -/
theorem turn_b {c : Int} {a : List Int} {ss : List (Int × List Int)} (h : SysOk c a ss) (hf : Few a ss) {B : Box} (hB : B.Ok) {y0 y2 y4 y5 y6 y7 y8 y9 y10 y11 y12 y13 y14 y15 : Sl} :
    ∃ B' z7 z8 z9, ev sg (CL n) (.seq (.asg (.tN 8) (.bop .Add (.consE (.cI 1) (.consE (.call 1 (.argN 1 (.consE (.cI 5) .nilE))) .nilE))))
  (.seq (.asg (.tN 9) (.call 28 (.argN 3 (.argN 8 .nilE))))
  (.seq (.asg (.tN 7) (.call 24 (.argN 3 (.argN 8 .nilE))))
  (.seq (.ifS (.tor (.tnot (.tv (.blt .isinstance (.argN 7 (.consE (.bty "list") .nilE))))) (.tcp .NotEq (.consE (.blt .repr_ (.argN 7 .nilE)) (.consE (.blt .repr_ (.argN 9 .nilE)) .nilE)))) (.seq (.ret (.cB false)) .skip) .skip)
  (.seq (.app 7 (.tupE .nilE))
  (.seq (.ifS (.tor (.tcp .NotEq (.consE (.blt .repr_ (.consE (.call 23 (.argN 3 (.argN 8 .nilE))) .nilE)) (.consE (.blt .repr_ (.argN 9 .nilE)) .nilE))) (.tcp .NotEq (.consE (.blt .repr_ (.argN 7 .nilE)) (.consE (.blt .repr_ (.consE (.bop .Add (.argN 9 (.consE (.lstE (.consE (.tupE .nilE) .nilE)) .nilE))) .nilE)) .nilE)))) (.seq (.ret (.cB false)) .skip) .skip) .skip)))))) [y0, B.sl, y2, .sh (sysD c a ss), y4, y5, y6, y7, y8, y9, y10, y11, y12, y13, y14, y15] = .ok (.fl .nx, [y0, Box.sl B', y2, .sh (sysD c a ss), y4, y5, y6, z7, z8, z9, y10, y11, y12, y13, y14, y15]) ∧ B'.Ok := by
  obtain ⟨r, B1, h1, d1⟩ := run_take (G := sg) (fs := fs) (n := n + 1 + 1 + 1 + 1 + 1 + 1) (j := 1) rfl (m := 5) hB (by decide) (by decide)
  obtain ⟨N, rfl⟩ := Int.eq_ofNat_of_zero_le d1.r0
  have hN : N ≤ 4 := by have := d1.rm; omega
  have la : a.length ≤ 1000 := by have := hf.st; omega
  have hz : ∀ k ≤ N, (pth a ss k).length ≤ 90000 := fun k hk => by
    have := pth_few (c := c) hf (k := k) (by omega)
    omega
  have hz' : ∀ k ≤ N, (pth a ss k).length ≤ 100000 := fun k hk => by have := hz k hk; omega
  have l243 := pth_few (c := c) hf (k := N) hN
  obtain ⟨s, h2, hs⟩ := run_law_all (G := sg) (fs := fs) (n := n + 1 + 1 + 1 + 1 + 1 + 1) h la (N := N) (by omega) hz
  have h3 := told_ok (n := n) h la (N := N) (by omega) hz' (by omega)
  have h4 := run_paths (G := sg) (fs := fs) (n := n + 1) h la (N := N) (by omega) hz'
  rw [if_neg (by omega)] at h4
  have hsm := pth_sm h (k := N) hN
  have q1 : pBlt .repr_ [mat (pth a ss N)] = some (.sh (.str (mat (pth a ss N)).py.shown)) := (repr_mat (by omega) hsm).1
  have s1 := ne_str (repr_mat (L := pth a ss N) (by omega) hsm).2
  have qq := repr_mat (L := pth a ss N ++ [[]]) (by rw [List.length_append]; show _ + 1 ≤ _; omega) fun w hw => by
    rcases List.mem_append.mp hw with hw | hw
    · exact hsm w hw
    · rw [List.mem_singleton] at hw
      subst hw
      exact ⟨by decide, nofun⟩
  have q2 : pBlt .repr_ [mat (pth a ss N ++ [[]])] = some (.sh (.str (mat (pth a ss N ++ [[]])).py.shown)) := qq.1
  have s2 := ne_str qq.2
  clear qq
  have hadd : pBop .Add (mat (pth a ss N)) (.lst [.tup []]) = some (.ow (mat (pth a ss N ++ [[]]))) := add_mat (M := [[]]) (by show _ + 1 ≤ _; omega)
  have hlz : ((pth a ss N).map iT).length < sizeLine := by rw [List.length_map]; exact sz' (by omega)
  have happ : Sl.ow (.lst ((pth a ss N).map iT ++ [.tup []])) = .ow (mat (pth a ss N ++ [[]])) := by
    show _ = Sl.ow (.lst ((pth a ss N ++ [[]]).map iT))
    rw [List.map_append]; rfl
  have hil : isiD (mat (pth a ss N)) "list" = some true := rfl
  have l0 : 0 ≤ sizeLine := sz (by decide)
  have l1 : 1 ≤ sizeLine := sz (by decide)
  obtain ⟨L, hL⟩ : ∃ L : Int, L = (N : Int) + 1 := ⟨_, rfl⟩
  have hL' : 1 + (N : Int) = L := by omega
  rw [← hL] at h2 h3 h4
  generalize (mat (pth a ss N ++ [[]])).py.shown = t2 at q2 s2
  generalize (mat (pth a ss N)).py.shown = t1 at q1 s1
  generalize mat (pth a ss N ++ [[]]) = M2 at q2 hadd happ
  obtain ⟨P, hP⟩ : ∃ P, P = (pth a ss N).map iT := ⟨_, rfl⟩
  have eM : mat (pth a ss N) = .lst P := by rw [hP]
  rw [eM] at h3 h4 q1 hadd hil hs
  rw [← hP] at hlz happ
  generalize sysD c a ss = S at h2 h3 h4 ⊢
  rcases hs with rfl | rfl
  · exact ⟨B1, _, _, _, by simp only [ev, ↓Res.bind_hide, Res.bindC_ok, Res.bindC_ex, flOf_fl, tstOf_bl, argsOf_args, valOf_val, itsOf_its, List.getElem?_cons_zero, List.getElem?_cons_succ, look_nil, look_vl, look_nm, hand_nil, hand_vl, hand_nm, handM_sh, handM_ow, once_nil, once_vl, once_nm, onceM_sh, onceM_ow, isNm, List.any_nil, List.any_cons, back_nil, back_vl, back_nm, backM_sh, backM_ow, vals_nil, vals_vl, d_sh, d_ow, down_sh, down_ow, Option.bind_some, Option.map_some, pIx_0, pIx_4, ixN_4, cop_eq, cop_ne, cop_gt, cop_lt, cop_le, cop_ge, ofO_some, bop_add, bop_sub, uop_sub, pow18, blt_int, blt_len, blt_abs, blt_list, blt_isi, decide_eq_true_eq, ↓reduceIte, decide_false, decide_true, Bool.false_eq_true, List.length_cons, List.length_nil, Nat.zero_add, Nat.reduceAdd, Nat.reduceLeDiff, Nat.reduceEqDiff, Nat.reduceBEq, List.set_cons_zero, List.set_cons_succ, Nat.reduceLT, Bool.not_true, Bool.not_false, Bool.or_false, Bool.false_or, Bool.and_true, Bool.true_and, beq_self_eq_true, eq_self, ↓ev_seqK, seqK_nx, seqK_rt, seqK_bk, seqK_ct, seqK_ex, tr_bl, Rt_ok, isT_tup, valOf_ex, argsOf_ex, tstOf_ex, flOf_ex, itsOf_ex, pT0, pT1, Int.reduceEq, Int.reduceLT, Int.reduceLE, h1, hL', h2, h3, h4, q1, q2, hadd, hlz, happ, hil, l0, l1, s1, s2] <;> rfl, d1.ok⟩
  · exact ⟨B1, _, _, _, by simp only [ev, ↓Res.bind_hide, Res.bindC_ok, Res.bindC_ex, flOf_fl, tstOf_bl, argsOf_args, valOf_val, itsOf_its, List.getElem?_cons_zero, List.getElem?_cons_succ, look_nil, look_vl, look_nm, hand_nil, hand_vl, hand_nm, handM_sh, handM_ow, once_nil, once_vl, once_nm, onceM_sh, onceM_ow, isNm, List.any_nil, List.any_cons, back_nil, back_vl, back_nm, backM_sh, backM_ow, vals_nil, vals_vl, d_sh, d_ow, down_sh, down_ow, Option.bind_some, Option.map_some, pIx_0, pIx_4, ixN_4, cop_eq, cop_ne, cop_gt, cop_lt, cop_le, cop_ge, ofO_some, bop_add, bop_sub, uop_sub, pow18, blt_int, blt_len, blt_abs, blt_list, blt_isi, decide_eq_true_eq, ↓reduceIte, decide_false, decide_true, Bool.false_eq_true, List.length_cons, List.length_nil, Nat.zero_add, Nat.reduceAdd, Nat.reduceLeDiff, Nat.reduceEqDiff, Nat.reduceBEq, List.set_cons_zero, List.set_cons_succ, Nat.reduceLT, Bool.not_true, Bool.not_false, Bool.or_false, Bool.false_or, Bool.and_true, Bool.true_and, beq_self_eq_true, eq_self, ↓ev_seqK, seqK_nx, seqK_rt, seqK_bk, seqK_ct, seqK_ex, tr_bl, Rt_ok, isT_tup, valOf_ex, argsOf_ex, tstOf_ex, flOf_ex, itsOf_ex, pT0, pT1, Int.reduceEq, Int.reduceLT, Int.reduceLE, h1, hL', h2, h3, h4, q1, q2, hadd, hlz, happ, hil, l0, l1, s1, s2] <;> rfl, d1.ok⟩
/-- the first half of a turn -/
theorem turn_a {B : Box} (hB : B.Ok) {y0 y2 y3 y4 y5 y6 y7 y8 y9 y10 y11 y12 y13 y14 y15 : Sl} {rest' : I} :
    ∃ (c : Int) (a : List Int) (ss : List (Int × List Int)) (w : List Int) (k : Nat) (B' : Box), ev sg (CL n) (.seq (.asg (.tN 3) (.call 26 (.argN 1 (.consE (.bop .Add (.consE (.cI 1) (.consE (.call 1 (.argN 1 (.consE (.cI 4) .nilE))) .nilE))) (.consE (.cI 5) .nilE)))))
  (.seq (.asg (.tN 4) (.call 27 (.argN 1 (.argN 3 (.consE (.call 2 (.argN 1 (.consE (.lstE (.consE (.bop .Add (.consE (.cI 1) (.consE (.call 1 (.argN 1 (.consE (.cI 7) .nilE))) .nilE))) (.consE (.bop .Add (.consE (.cI 1) (.consE (.call 1 (.argN 1 (.consE (.cI 7) .nilE))) .nilE))) (.consE (.cI 12) (.consE (.cI 40) .nilE))))) .nilE))) .nilE)))))
  (.seq (.ifS (.tcp .IsNot (.consE (.call 30 (.argN 3 (.argN 4 .nilE))) (.consE (.cB true) .nilE))) (.seq (.ret (.cB false)) .skip) .skip)
  (.seq (.asg (.tN 5) (.call 1 (.argN 1 (.consE (.blt .len (.argN 4 .nilE)) .nilE))))
  rest')))) [y0, B.sl, y2, y3, y4, y5, y6, y7, y8, y9, y10, y11, y12, y13, y14, y15] = ev sg (CL n) rest' [y0, Box.sl B', y2, .sh (sysD c a ss), .sh (iT w), .sh (.int k), y6, y7, y8, y9, y10, y11, y12, y13, y14, y15] ∧ B'.Ok ∧ SysOk c a ss ∧ Few a ss ∧ w.length ≤ 100 ∧ k < w.length := by
  obtain ⟨r1, B1, h1, d1⟩ := run_take (G := sg) (fs := fs) (n := n + 1 + 1 + 1 + 1 + 1 + 1) (j := 1) rfl (m := 4) hB (by decide) (by decide)
  have r10 := d1.r0
  have r11 := d1.rm
  obtain ⟨a, ss, B2, h2, hS, hF, ok2⟩ := run_system (G := sg) (fs := fs) (n := n + 1 + 1 + 1) (c := 1 + r1) (most := 5) (by omega) (by omega) (by decide) (by decide) d1.ok
  obtain ⟨r2, B3, h3, d3⟩ := run_take (G := sg) (fs := fs) (n := n + 1 + 1 + 1 + 1 + 1 + 1) (j := 1) rfl (m := 7) ok2 (by decide) (by decide)
  have r20 := d3.r0
  have r21 := d3.rm
  obtain ⟨r3, B4, h4, d4⟩ := run_take (G := sg) (fs := fs) (n := n + 1 + 1 + 1 + 1 + 1 + 1) (j := 1) rfl (m := 7) d3.ok (by decide) (by decide)
  have r30 := d4.r0
  have r31 := d4.rm
  obtain ⟨q, B5, h5, hq, ok5⟩ := pick_ints (G := sg) (fs := fs) (n := n + 1 + 1 + 1 + 1 + 1) (menu := [1 + r2, 1 + r3, 12, 40]) d4.ok (by show 0 < 4; decide) (by show 4 < 1000; decide)
  have q0 : 1 ≤ q ∧ q ≤ 40 := by
    simp only [List.mem_cons, List.not_mem_nil, or_false] at hq
    omega
  obtain ⟨N, hN⟩ := Int.eq_ofNat_of_zero_le (show 0 ≤ q - 1 by omega)
  have hq' : (N : Int) + 1 = q := by omega
  obtain ⟨w, B6, h6, hw, lw, ok6⟩ := run_law_path (G := sg) (fs := fs) (n := n + 1 + 1 + 1 + 1) hS (by have := hF.st; omega) (fun p hp => by have := hF.nx p hp; omega) (N := N) (by omega) ok5
  rw [hq'] at h6
  have h7 := run_is_path (G := sg) (fs := fs) (n := n + 1) (w := w) hS (by omega)
  rw [hw.isP] at h7
  obtain ⟨r4, B7, h8, d8⟩ := run_take (G := sg) (fs := fs) (n := n + 1 + 1 + 1 + 1 + 1 + 1) (j := 1) rfl (m := (w.length : Int)) ok6 (by omega) (by omega)
  have r40 := d8.r0
  have r41 := d8.rm
  obtain ⟨k, rfl⟩ := Int.eq_ofNat_of_zero_le r40
  refine ⟨1 + r1, a, ss, w, k, B7, ?_, d8.ok, hS, hF, by omega, by omega⟩
  obtain ⟨l, hl⟩ : ∃ l : Int, l = (w.length : Int) := ⟨_, rfl⟩
  have hlen : pBlt .len [iT w] = some (.sh (.int l)) := by rw [blt_lenT, List.length_map, hl]
  rw [← hl] at h8
  have h5' : CL n 2 [B4.sl, .ow (.lst [.int (1 + r2), .int (1 + r3), .int 12, .int 40])] = .ok (.sh (.int q), [B5.sl, .ow (.lst [.int (1 + r2), .int (1 + r3), .int 12, .int 40])]) := h5
  have l4 : 4 ≤ sizeLine := sz (by decide)
  have isn : pCop .IsNot (.bl true) (.bl true) = some false := rfl
  generalize iT w = W at h6 h7 hlen ⊢
  generalize sysD (1 + r1) a ss = S at h2 h6 h7 ⊢
  simp only [ev, ↓Res.bind_hide, Res.bindC_ok, Res.bindC_ex, flOf_fl, tstOf_bl, argsOf_args, valOf_val, itsOf_its, List.getElem?_cons_zero, List.getElem?_cons_succ, look_nil, look_vl, look_nm, hand_nil, hand_vl, hand_nm, handM_sh, handM_ow, once_nil, once_vl, once_nm, onceM_sh, onceM_ow, isNm, List.any_nil, List.any_cons, back_nil, back_vl, back_nm, backM_sh, backM_ow, vals_nil, vals_vl, d_sh, d_ow, down_sh, down_ow, Option.bind_some, Option.map_some, pIx_0, pIx_4, ixN_4, cop_eq, cop_ne, cop_gt, cop_lt, cop_le, cop_ge, ofO_some, bop_add, bop_sub, uop_sub, pow18, blt_int, blt_len, blt_abs, blt_list, blt_isi, decide_eq_true_eq, ↓reduceIte, decide_false, decide_true, Bool.false_eq_true, List.length_cons, List.length_nil, Nat.zero_add, Nat.reduceAdd, Nat.reduceLeDiff, Nat.reduceEqDiff, Nat.reduceBEq, List.set_cons_zero, List.set_cons_succ, Nat.reduceLT, Bool.not_true, Bool.not_false, Bool.or_false, Bool.false_or, Bool.and_true, Bool.true_and, beq_self_eq_true, eq_self, ↓ev_seqK, seqK_nx, seqK_rt, seqK_bk, seqK_ct, seqK_ex, tr_bl, Rt_ok, isT_tup, valOf_ex, argsOf_ex, tstOf_ex, flOf_ex, itsOf_ex, pT0, pT1, Int.reduceEq, Int.reduceLT, Int.reduceLE, h1, h2, h3, h4, h5', h6, h7, h8, hlen, l4, isn]
/-- the three turns -/
theorem law_f1 {B : Box} (hB : B.Ok) {y0 y2 y3 y4 y5 y6 y7 y8 y9 y10 y11 y12 y13 y14 y15 : Sl} :
    ∃ B' z2 z3 z4 z5 z6 z7 z8 z9, ev sg (CL n) Fn.law_2.f1 [y0, B.sl, y2, y3, y4, y5, y6, y7, y8, y9, y10, y11, y12, y13, y14, y15] = .ok (.fl .nx, [y0, Box.sl B', z2, z3, z4, z5, z6, z7, z8, z9, y10, y11, y12, y13, y14, y15]) ∧ B'.Ok := by
  have key := forL_inv (step := fSt sg (CL n) (.tN 2) (.seq (.asg (.tN 3) (.call 26 (.argN 1 (.consE (.bop .Add (.consE (.cI 1) (.consE (.call 1 (.argN 1 (.consE (.cI 4) .nilE))) .nilE))) (.consE (.cI 5) .nilE)))))
  (.seq (.asg (.tN 4) (.call 27 (.argN 1 (.argN 3 (.consE (.call 2 (.argN 1 (.consE (.lstE (.consE (.bop .Add (.consE (.cI 1) (.consE (.call 1 (.argN 1 (.consE (.cI 7) .nilE))) .nilE))) (.consE (.bop .Add (.consE (.cI 1) (.consE (.call 1 (.argN 1 (.consE (.cI 7) .nilE))) .nilE))) (.consE (.cI 12) (.consE (.cI 40) .nilE))))) .nilE))) .nilE)))))
  (.seq (.ifS (.tcp .IsNot (.consE (.call 30 (.argN 3 (.argN 4 .nilE))) (.consE (.cB true) .nilE))) (.seq (.ret (.cB false)) .skip) .skip)
  (.seq (.asg (.tN 5) (.call 1 (.argN 1 (.consE (.blt .len (.argN 4 .nilE)) .nilE))))
  (.seq Fn.law_2.f0
  (.seq (.asg (.tN 8) (.bop .Add (.consE (.cI 1) (.consE (.call 1 (.argN 1 (.consE (.cI 5) .nilE))) .nilE))))
  (.seq (.asg (.tN 9) (.call 28 (.argN 3 (.argN 8 .nilE))))
  (.seq (.asg (.tN 7) (.call 24 (.argN 3 (.argN 8 .nilE))))
  (.seq (.ifS (.tor (.tnot (.tv (.blt .isinstance (.argN 7 (.consE (.bty "list") .nilE))))) (.tcp .NotEq (.consE (.blt .repr_ (.argN 7 .nilE)) (.consE (.blt .repr_ (.argN 9 .nilE)) .nilE)))) (.seq (.ret (.cB false)) .skip) .skip)
  (.seq (.app 7 (.tupE .nilE))
  (.seq (.ifS (.tor (.tcp .NotEq (.consE (.blt .repr_ (.consE (.call 23 (.argN 3 (.argN 8 .nilE))) .nilE)) (.consE (.blt .repr_ (.argN 9 .nilE)) .nilE))) (.tcp .NotEq (.consE (.blt .repr_ (.argN 7 .nilE)) (.consE (.blt .repr_ (.consE (.bop .Add (.argN 9 (.consE (.lstE (.consE (.tupE .nilE) .nilE)) .nilE))) .nilE)) .nilE)))) (.seq (.ret (.cB false)) .skip) .skip) .skip))))))))))))
    (P := fun (_ : List D) (e : RF.Env) => ∃ (B : Box) (z2 z3 z4 z5 z6 z7 z8 z9 : Sl), e = [y0, B.sl, z2, z3, z4, z5, z6, z7, z8, z9, y10, y11, y12, y13, y14, y15] ∧ B.Ok) (ds := rngL 0 3) (e := [y0, B.sl, y2, y3, y4, y5, y6, y7, y8, y9, y10, y11, y12, y13, y14, y15]) (fun d r e ⟨B, z2, z3, z4, z5, z6, z7, z8, z9, he, hB⟩ => by
      subst he
      obtain ⟨c, a, ss, w, k, B2, h1, ok2, hS, hF, lw, hk⟩ := turn_a (n := n) hB (y0 := y0) (y2 := .sh d) (y3 := z3) (y4 := z4) (y5 := z5) (y6 := z6) (y7 := z7) (y8 := z8) (y9 := z9) (y10 := y10) (y11 := y11) (y12 := y12) (y13 := y13) (y14 := y14) (y15 := y15) (rest' := (.seq Fn.law_2.f0
  (.seq (.asg (.tN 8) (.bop .Add (.consE (.cI 1) (.consE (.call 1 (.argN 1 (.consE (.cI 5) .nilE))) .nilE))))
  (.seq (.asg (.tN 9) (.call 28 (.argN 3 (.argN 8 .nilE))))
  (.seq (.asg (.tN 7) (.call 24 (.argN 3 (.argN 8 .nilE))))
  (.seq (.ifS (.tor (.tnot (.tv (.blt .isinstance (.argN 7 (.consE (.bty "list") .nilE))))) (.tcp .NotEq (.consE (.blt .repr_ (.argN 7 .nilE)) (.consE (.blt .repr_ (.argN 9 .nilE)) .nilE)))) (.seq (.ret (.cB false)) .skip) .skip)
  (.seq (.app 7 (.tupE .nilE))
  (.seq (.ifS (.tor (.tcp .NotEq (.consE (.blt .repr_ (.consE (.call 23 (.argN 3 (.argN 8 .nilE))) .nilE)) (.consE (.blt .repr_ (.argN 9 .nilE)) .nilE))) (.tcp .NotEq (.consE (.blt .repr_ (.argN 7 .nilE)) (.consE (.blt .repr_ (.consE (.bop .Add (.argN 9 (.consE (.lstE (.consE (.tupE .nilE) .nilE)) .nilE))) .nilE)) .nilE)))) (.seq (.ret (.cB false)) .skip) .skip) .skip))))))))
      obtain ⟨B3, w6, w7, h2, ok3⟩ := law_f0 (n := n) hS lw hk ok2 (y0 := y0) (y2 := .sh d) (y6 := z6) (y7 := z7) (y8 := z8) (y9 := z9) (y10 := y10) (y11 := y11) (y12 := y12) (y13 := y13) (y14 := y14) (y15 := y15)
      obtain ⟨B4, v7, v8, v9, h3, ok4⟩ := turn_b (n := n) hS hF ok3 (y0 := y0) (y2 := .sh d) (y4 := .sh (iT w)) (y5 := .sh (.int k)) (y6 := w6) (y7 := w7) (y8 := z8) (y9 := z9) (y10 := y10) (y11 := y11) (y12 := y12) (y13 := y13) (y14 := y14) (y15 := y15)
      refine ⟨_, Eq.trans h1 ?_, B4, .sh d, .sh (sysD c a ss), .sh (iT w), .sh (.int k), w6, v7, v8, v9, rfl, ok4⟩
      rw [ev_seqK, h2, seqK_nx]
      exact h3) ⟨B, y2, y3, y4, y5, y6, y7, y8, y9, rfl, hB⟩
  obtain ⟨e', k1, B', z2, z3, z4, z5, z6, z7, z8, z9, rfl, ok⟩ := key
  refine ⟨B', z2, z3, z4, z5, z6, z7, z8, z9, ?_, ok⟩
  have hit : ev sg (CL n) (.itR (.consE (.cI 3) .nilE)) [y0, B.sl, y2, y3, y4, y5, y6, y7, y8, y9, y10, y11, y12, y13, y14, y15] = .ok (.its (rngL 0 3), [y0, B.sl, y2, y3, y4, y5, y6, y7, y8, y9, y10, y11, y12, y13, y14, y15]) := itR_val rfl (inI' (by decide) (by decide))
  unfold Fn.law_2.f1
  rw [ev_forS hit]
  exact k1
end LawT
end


section
open PySem PySem.Spec PyProof.Rows L2 RF
namespace LawT
variable {n : Nat}
abbrev st5 : D := .tup [.int 0, .tup [.int 0, .int 1, .int 2, .int 3, .int 4]]
abbrev a11 : I := (.asg (.tN 11) (.bop .Add (.consE (.bop .Add (.consE (.bop .Mult (.consE (.tupE (.consE (.tupE (.consE (.cI 0) (.consE (.tupE (.consE (.cI 0) (.consE (.cI 1) (.consE (.cI 2) (.consE (.cI 3) (.consE (.cI 4) .nilE)))))) .nilE))) .nilE)) (.consE (.cI 4) .nilE))) (.consE (.tupE (.consE (.tupE (.consE (.cI 0) (.consE (.sle false true (.consE (.tupE (.consE (.cI 0) (.consE (.cI 1) (.consE (.cI 2) (.consE (.cI 3) (.consE (.cI 4) (.consE (.cI 5) .nilE))))))) (.consE (.bop .Add (.consE (.cI 5) (.argN 10 .nilE))) .nilE))) .nilE))) .nilE)) .nilE))) (.consE (.bop .Mult (.consE (.tupE (.consE (.tupE (.consE (.cI 0) (.consE (.tupE (.consE (.cI 0) (.consE (.cI 1) (.consE (.cI 2) (.consE (.cI 3) (.consE (.cI 4) .nilE)))))) .nilE))) .nilE)) (.consE (.cI 3) .nilE))) .nilE))))
theorem s2_a11 (b : Bool) {C : Nat → List Sl → Res (Sl × List Sl)} {y0 y1 y2 y3 y4 y5 y6 y7 y8 y9 y11 y12 y13 y14 y15 : Sl} :
    ev sg C a11 [y0, y1, y2, y3, y4, y5, y6, y7, y8, y9, .sh (.int (if b then 1 else 0)), y11, y12, y13, y14, y15] = .ok (.fl .nx, [y0, y1, y2, y3, y4, y5, y6, y7, y8, y9, .sh (.int (if b then 1 else 0)), .sh (.tup ((mixS b).map stD)), y12, y13, y14, y15]) := by
  cases b <;> rfl
abbrev a7 : I := (.asg (.tN 7) (.call 24 (.consE (.tupE (.consE (.cI 1) (.consE (.tupR (.consE (.cI 8) .nilE)) (.consE (.var 11) .nilE)))) (.consE (.cI 5) .nilE))))
abbrev t5 : I := (.ifS (.tor (.tcp .NotEq (.consE (.cop .Eq (.argN 7 (.consE (.tupE (.consE (.cS "refused") (.consE (.cS "much") .nilE))) .nilE))) (.consE (.cop .Eq (.argN 10 (.consE (.cI 1) .nilE))) .nilE))) (.tand (.tcp .Eq (.argN 10 (.consE (.cI 0) .nilE))) (.tcp .NotEq (.consE (.blt .len (.argN 7 .nilE)) (.consE (.cI 5000) .nilE)))))
  (.seq (.ret (.cB false))
  .skip)
  .skip)
theorem s2_a7 (b : Bool) {r : Sl} (h : CL n 24 [.sh (sysD 1 (rg 8) (mixS b)), .sh (.int 5)] = .ok (r, [.sh (sysD 1 (rg 8) (mixS b)), .sh (.int 5)])) {y0 y1 y2 y3 y4 y5 y6 y7 y8 y9 y10 y12 y13 y14 y15 : Sl} :
    ev sg (CL n) a7 [y0, y1, y2, y3, y4, y5, y6, y7, y8, y9, y10, .sh (.tup ((mixS b).map stD)), y12, y13, y14, y15] = .ok (.fl .nx, [y0, y1, y2, y3, y4, y5, y6, r, y8, y9, y10, .sh (.tup ((mixS b).map stD)), y12, y13, y14, y15]) := by
  have l3 : 3 ≤ sizeLine := sz (by decide)
  have h8 : pTupR [.int 8] = some (.sh (iT (rg 8))) := by rfl
  have h' : CL n 24 [.sh (.tup [.int 1, iT (rg 8), .tup ((mixS b).map stD)]), .sh (.int 5)] = .ok (r, [.sh (.tup [.int 1, iT (rg 8), .tup ((mixS b).map stD)]), .sh (.int 5)]) := h
  clear h
  generalize iT (rg 8) = R8 at h' h8
  generalize D.tup ((mixS b).map stD) = SS at h' ⊢
  simp only [ev, ↓Res.bind_hide, Res.bindC_ok, Res.bindC_ex, flOf_fl, tstOf_bl, argsOf_args, valOf_val, itsOf_its, List.getElem?_cons_zero, List.getElem?_cons_succ, look_nil, look_vl, look_nm, hand_nil, hand_vl, hand_nm, handM_sh, handM_ow, once_nil, once_vl, once_nm, onceM_sh, onceM_ow, isNm, List.any_nil, List.any_cons, back_nil, back_vl, back_nm, backM_sh, backM_ow, vals_nil, vals_vl, d_sh, d_ow, down_sh, down_ow, Option.bind_some, Option.map_some, pIx_0, pIx_4, ixN_4, cop_eq, cop_ne, cop_gt, cop_lt, cop_le, cop_ge, ofO_some, bop_add, bop_sub, uop_sub, pow18, blt_int, blt_len, blt_abs, blt_list, blt_isi, decide_eq_true_eq, ↓reduceIte, decide_false, decide_true, Bool.false_eq_true, List.length_cons, List.length_nil, Nat.zero_add, Nat.reduceAdd, Nat.reduceLeDiff, Nat.reduceEqDiff, Nat.reduceBEq, List.set_cons_zero, List.set_cons_succ, Nat.reduceLT, Bool.not_true, Bool.not_false, Bool.or_false, Bool.false_or, Bool.and_true, Bool.true_and, beq_self_eq_true, eq_self, ↓ev_seqK, seqK_nx, seqK_rt, seqK_bk, seqK_ct, seqK_ex, tr_bl, Rt_ok, isT_tup, valOf_ex, argsOf_ex, tstOf_ex, flOf_ex, itsOf_ex, pT0, pT1, Int.reduceEq, Int.reduceLT, Int.reduceLE, l3, h8, h'] <;> rfl
theorem eq_much {M : D} (h : M = .tup [.str "refused", .str "much"]) : pCop .Eq M (.tup [.str "refused", .str "much"]) = some true := by
  subst h
  decide +kernel
theorem eq_muchL {L : List (List Int)} : pCop .Eq (mat L) (.tup [.str "refused", .str "much"]) = some false := by
  have hp : (mat L).pl deepest = true := pls_of (n := 39) fun d hd => by
    obtain ⟨w, _, rfl⟩ := List.mem_map.mp hd
    exact pls_ints (n := 38) w
  rw [cop_eqD hp (by decide +kernel)]
  rfl
theorem s2_t0 {C : Nat → List Sl → Res (Sl × List Sl)} {M : D} (he : pCop .Eq M (.tup [.str "refused", .str "much"]) = some false) (hl : pBlt .len [M] = some (.sh (.int 5000))) {y0 y1 y2 y3 y4 y5 y6 y8 y9 y11 y12 y13 y14 y15 : Sl} :
    ev sg C t5 [y0, y1, y2, y3, y4, y5, y6, .ow M, y8, y9, .sh (.int 0), y11, y12, y13, y14, y15] = .ok (.fl .nx, [y0, y1, y2, y3, y4, y5, y6, .ow M, y8, y9, .sh (.int 0), y11, y12, y13, y14, y15]) := by
  have l2 : 2 ≤ sizeLine := sz (by decide)
  simp only [ev, ↓Res.bind_hide, Res.bindC_ok, Res.bindC_ex, flOf_fl, tstOf_bl, argsOf_args, valOf_val, itsOf_its, List.getElem?_cons_zero, List.getElem?_cons_succ, look_nil, look_vl, look_nm, hand_nil, hand_vl, hand_nm, handM_sh, handM_ow, once_nil, once_vl, once_nm, onceM_sh, onceM_ow, isNm, List.any_nil, List.any_cons, back_nil, back_vl, back_nm, backM_sh, backM_ow, vals_nil, vals_vl, d_sh, d_ow, down_sh, down_ow, Option.bind_some, Option.map_some, pIx_0, pIx_4, ixN_4, cop_eq, cop_ne, cop_gt, cop_lt, cop_le, cop_ge, ofO_some, bop_add, bop_sub, uop_sub, pow18, blt_int, blt_len, blt_abs, blt_list, blt_isi, decide_eq_true_eq, ↓reduceIte, decide_false, decide_true, Bool.false_eq_true, List.length_cons, List.length_nil, Nat.zero_add, Nat.reduceAdd, Nat.reduceLeDiff, Nat.reduceEqDiff, Nat.reduceBEq, List.set_cons_zero, List.set_cons_succ, Nat.reduceLT, Bool.not_true, Bool.not_false, Bool.or_false, Bool.false_or, Bool.and_true, Bool.true_and, beq_self_eq_true, eq_self, ↓ev_seqK, seqK_nx, seqK_rt, seqK_bk, seqK_ct, seqK_ex, tr_bl, Rt_ok, isT_tup, valOf_ex, argsOf_ex, tstOf_ex, flOf_ex, itsOf_ex, pT0, pT1, Int.reduceEq, Int.reduceLT, Int.reduceLE, he, hl, l2, ne_bl] <;> rfl
theorem s2_t1 {C : Nat → List Sl → Res (Sl × List Sl)} {y0 y1 y2 y3 y4 y5 y6 y8 y9 y11 y12 y13 y14 y15 : Sl} :
    ev sg C t5 [y0, y1, y2, y3, y4, y5, y6, .sh (.tup [.str "refused", .str "much"]), y8, y9, .sh (.int 1), y11, y12, y13, y14, y15] = .ok (.fl .nx, [y0, y1, y2, y3, y4, y5, y6, .sh (.tup [.str "refused", .str "much"]), y8, y9, .sh (.int 1), y11, y12, y13, y14, y15]) := by
  have l2 : 2 ≤ sizeLine := sz (by decide)
  have he := eq_much (M := .tup [.str "refused", .str "much"]) rfl
  simp only [ev, ↓Res.bind_hide, Res.bindC_ok, Res.bindC_ex, flOf_fl, tstOf_bl, argsOf_args, valOf_val, itsOf_its, List.getElem?_cons_zero, List.getElem?_cons_succ, look_nil, look_vl, look_nm, hand_nil, hand_vl, hand_nm, handM_sh, handM_ow, once_nil, once_vl, once_nm, onceM_sh, onceM_ow, isNm, List.any_nil, List.any_cons, back_nil, back_vl, back_nm, backM_sh, backM_ow, vals_nil, vals_vl, d_sh, d_ow, down_sh, down_ow, Option.bind_some, Option.map_some, pIx_0, pIx_4, ixN_4, cop_eq, cop_ne, cop_gt, cop_lt, cop_le, cop_ge, ofO_some, bop_add, bop_sub, uop_sub, pow18, blt_int, blt_len, blt_abs, blt_list, blt_isi, decide_eq_true_eq, ↓reduceIte, decide_false, decide_true, Bool.false_eq_true, List.length_cons, List.length_nil, Nat.zero_add, Nat.reduceAdd, Nat.reduceLeDiff, Nat.reduceEqDiff, Nat.reduceBEq, List.set_cons_zero, List.set_cons_succ, Nat.reduceLT, Bool.not_true, Bool.not_false, Bool.or_false, Bool.false_or, Bool.and_true, Bool.true_and, beq_self_eq_true, eq_self, ↓ev_seqK, seqK_nx, seqK_rt, seqK_bk, seqK_ct, seqK_ex, tr_bl, Rt_ok, isT_tup, valOf_ex, argsOf_ex, tstOf_ex, flOf_ex, itsOf_ex, pT0, pT1, Int.reduceEq, Int.reduceLT, Int.reduceLE, he, l2, ne_bl] <;> rfl
theorem s2_blk {A D T : I} {B B1 B2 : Box} {q : Int} {r SS : Sl} {y0 y2 y3 y4 y5 y6 y7 y8 y9 y10 y11 y12 y13 y14 y15 : Sl}
    (h1 : CL n 1 [B.sl, .sh (.int 6)] = .ok (.sh (.int 0), [B1.sl, .sh (.int 6)])) (h2 : CL n 1 [B1.sl, .sh (.int 2)] = .ok (.sh (.int q), [B2.sl, .sh (.int 2)]))
    (hA : ev sg (CL n) A [y0, B2.sl, y2, y3, y4, y5, y6, y7, y8, y9, .sh (.int q), y11, y12, y13, y14, y15] = .ok (.fl .nx, [y0, B2.sl, y2, y3, y4, y5, y6, y7, y8, y9, .sh (.int q), SS, y12, y13, y14, y15]))
    (hD : ev sg (CL n) D [y0, B2.sl, y2, y3, y4, y5, y6, y7, y8, y9, .sh (.int q), SS, y12, y13, y14, y15] = .ok (.fl .nx, [y0, B2.sl, y2, y3, y4, y5, y6, r, y8, y9, .sh (.int q), SS, y12, y13, y14, y15]))
    (hT : ev sg (CL n) T [y0, B2.sl, y2, y3, y4, y5, y6, r, y8, y9, .sh (.int q), SS, y12, y13, y14, y15] = .ok (.fl .nx, [y0, B2.sl, y2, y3, y4, y5, y6, r, y8, y9, .sh (.int q), SS, y12, y13, y14, y15])) :
    ev sg (CL n) (.ifS (.tcp .Eq (.consE (.call 1 (.argN 1 (.consE (.cI 6) .nilE))) (.consE (.cI 0) .nilE))) (.seq (.asg (.tN 10) (.call 1 (.argN 1 (.consE (.cI 2) .nilE)))) (.seq A (.seq D (.seq T .skip)))) .skip) [y0, B.sl, y2, y3, y4, y5, y6, y7, y8, y9, y10, y11, y12, y13, y14, y15] = .ok (.fl .nx, [y0, B2.sl, y2, y3, y4, y5, y6, r, y8, y9, .sh (.int q), SS, y12, y13, y14, y15]) := by
  simp only [ev, ↓Res.bind_hide, Res.bindC_ok, Res.bindC_ex, flOf_fl, tstOf_bl, argsOf_args, valOf_val, itsOf_its, List.getElem?_cons_zero, List.getElem?_cons_succ, look_nil, look_vl, look_nm, hand_nil, hand_vl, hand_nm, handM_sh, handM_ow, once_nil, once_vl, once_nm, onceM_sh, onceM_ow, isNm, List.any_nil, List.any_cons, back_nil, back_vl, back_nm, backM_sh, backM_ow, vals_nil, vals_vl, d_sh, d_ow, down_sh, down_ow, Option.bind_some, Option.map_some, pIx_0, pIx_4, ixN_4, cop_eq, cop_ne, cop_gt, cop_lt, cop_le, cop_ge, ofO_some, bop_add, bop_sub, uop_sub, pow18, blt_int, blt_len, blt_abs, blt_list, blt_isi, decide_eq_true_eq, ↓reduceIte, decide_false, decide_true, Bool.false_eq_true, List.length_cons, List.length_nil, Nat.zero_add, Nat.reduceAdd, Nat.reduceLeDiff, Nat.reduceEqDiff, Nat.reduceBEq, List.set_cons_zero, List.set_cons_succ, Nat.reduceLT, Bool.not_true, Bool.not_false, Bool.or_false, Bool.false_or, Bool.and_true, Bool.true_and, beq_self_eq_true, eq_self, ↓ev_seqK, seqK_nx, seqK_rt, seqK_bk, seqK_ct, seqK_ex, tr_bl, Rt_ok, isT_tup, valOf_ex, argsOf_ex, tstOf_ex, flOf_ex, itsOf_ex, pT0, pT1, Int.reduceEq, Int.reduceLT, Int.reduceLE, h1, h2, hA, hD, hT] <;> rfl
/-- the systems of eight states -/
theorem law_s2 {B : Box} (hB : B.Ok) {y0 y2 y3 y4 y5 y6 y7 y8 y9 y10 y11 y12 y13 y14 y15 : Sl} :
    ∃ B' z7 z10 z11, ev sg (CL n) Fn.law_2.s2 [y0, B.sl, y2, y3, y4, y5, y6, y7, y8, y9, y10, y11, y12, y13, y14, y15] = .ok (.fl .nx, [y0, Box.sl B', y2, y3, y4, y5, y6, z7, y8, y9, z10, z11, y12, y13, y14, y15]) ∧ B'.Ok := by
  obtain ⟨r, B1, h1, d1⟩ := run_take (G := sg) (fs := fs) (n := n + 1 + 1 + 1 + 1 + 1 + 1) (j := 1) rfl (m := 6) hB (by decide) (by decide)
  by_cases hr : r = 0
  case neg =>
    refine ⟨B1, y7, y10, y11, ?_, d1.ok⟩
    unfold Fn.law_2.s2
    simp only [ev, ↓Res.bind_hide, Res.bindC_ok, Res.bindC_ex, flOf_fl, tstOf_bl, argsOf_args, valOf_val, itsOf_its, List.getElem?_cons_zero, List.getElem?_cons_succ, look_nil, look_vl, look_nm, hand_nil, hand_vl, hand_nm, handM_sh, handM_ow, once_nil, once_vl, once_nm, onceM_sh, onceM_ow, isNm, List.any_nil, List.any_cons, back_nil, back_vl, back_nm, backM_sh, backM_ow, vals_nil, vals_vl, d_sh, d_ow, down_sh, down_ow, Option.bind_some, Option.map_some, pIx_0, pIx_4, ixN_4, cop_eq, cop_ne, cop_gt, cop_lt, cop_le, cop_ge, ofO_some, bop_add, bop_sub, uop_sub, pow18, blt_int, blt_len, blt_abs, blt_list, blt_isi, decide_eq_true_eq, ↓reduceIte, decide_false, decide_true, Bool.false_eq_true, List.length_cons, List.length_nil, Nat.zero_add, Nat.reduceAdd, Nat.reduceLeDiff, Nat.reduceEqDiff, Nat.reduceBEq, List.set_cons_zero, List.set_cons_succ, Nat.reduceLT, Bool.not_true, Bool.not_false, Bool.or_false, Bool.false_or, Bool.and_true, Bool.true_and, beq_self_eq_true, eq_self, ↓ev_seqK, seqK_nx, seqK_rt, seqK_bk, seqK_ct, seqK_ex, tr_bl, Rt_ok, isT_tup, valOf_ex, argsOf_ex, tstOf_ex, flOf_ex, itsOf_ex, pT0, pT1, Int.reduceEq, Int.reduceLT, Int.reduceLE, h1, hr] <;> rfl
  subst hr
  obtain ⟨q, B2, h2, d2⟩ := run_take (G := sg) (fs := fs) (n := n + 1 + 1 + 1 + 1 + 1 + 1) (j := 1) rfl (m := 2) d1.ok (by decide) (by decide)
  have q0 := d2.r0
  have q1 := d2.rm
  have hq : q = (if false then 1 else 0) ∨ q = (if true then 1 else 0) := by
    show q = 0 ∨ q = 1
    omega
  rcases hq with rfl | rfl
  · have ht := told_ok (n := n) (mix_ok false) (by decide) (N := 4) (by decide) (mix_few false) (by rw [mix_len0]; decide)
    have hl : pBlt .len [mat (pth (rg 8) (mixS false) 4)] = some (.sh (.int 5000)) := by
      show slV (.int (((pth (rg 8) (mixS false) 4).map iT).length : Nat)) = _
      rw [List.length_map, mix_len0]; rfl
    exact ⟨B2, _, _, _, s2_blk h1 h2 (s2_a11 false) (s2_a7 false ht) (s2_t0 (eq_muchL) hl), d2.ok⟩
  · have ht := told_much (n := n) (mix_ok true) (by decide) (N := 4) (by decide) (mix_few true) mix_len1
    exact ⟨B2, _, _, _, s2_blk h1 h2 (s2_a11 true) (s2_a7 true ht) s2_t1, d2.ok⟩
/-! the full systems -/
theorem e_s4 {C : Nat → List Sl → Res (Sl × List Sl)} {M : Nat} (h : M = 5 ∨ M = 6 ∨ M = 7 ∨ M = 8) {y0 y1 y2 y3 y4 y5 y6 y7 y8 y9 y10 y11 y14 y15 : Sl} :
    ev sg C Fn.law_2.s4 [y0, y1, y2, y3, y4, y5, y6, y7, y8, y9, y10, y11, .sh (.int (M : Nat)), y13, y14, y15] = .ok (.fl .nx, [y0, y1, y2, y3, y4, y5, y6, y7, y8, y9, y10, y11, .sh (.int (M : Nat)), .sh (sysD 1 (rg M) (fullS M)), y14, y15]) := by
  rcases h with rfl | rfl | rfl | rfl <;> rfl
theorem e_s8 {C : Nat → List Sl → Res (Sl × List Sl)} {M N : Nat} (h : M = 5 ∨ M = 6 ∨ M = 7 ∨ M = 8) (hN : N = 0 ∨ N = 1 ∨ N = 2 ∨ N = 3 ∨ N = 4) {y0 y1 y2 y3 y4 y5 y6 y7 y9 y10 y11 y13 : Sl} :
    ev sg C Fn.law_2.s8 [y0, y1, y2, y3, y4, y5, y6, y7, .sh (.int ((N : Nat) + 1)), y9, y10, y11, .sh (.int (M : Nat)), y13, .sh (.int 1), y15] = .ok (.fl .nx, [y0, y1, y2, y3, y4, y5, y6, y7, .sh (.int ((N : Nat) + 1)), y9, y10, y11, .sh (.int (M : Nat)), y13, .sh (.int ((M ^ (N + 1) : Nat))), .sh (.int (N : Nat))]) := by
  rcases h with rfl | rfl | rfl | rfl <;> rcases hN with rfl | rfl | rfl | rfl | rfl <;> rfl
theorem e_s10 {C : Nat → List Sl → Res (Sl × List Sl)} {L : D} {T M k : Int} {X Y : D} (hi : isiD L "list" = some true) (hl : pBlt .len [L] = some (.sh (.int T))) (h0 : pIx L (.int 0) = some (.sh X)) (h1 : pIx L (.int (T - 1)) = some (.sh Y))
    (m0 : pBop .Mult (.tup [.int 0]) (.int k) = some (.sh X)) (m1 : pBop .Mult (.tup [.int (M - 1)]) (.int k) = some (.sh Y)) (cx : pCop .Eq X X = some true) (cy : pCop .Eq Y Y = some true) (ct : pCop .Eq (.int T) (.int T) = some true) {y0 y1 y2 y3 y4 y5 y6 y9 y10 y11 y13 y15 : Sl} :
    Rt (ev sg C Fn.law_2.s10 [y0, y1, y2, y3, y4, y5, y6, .ow L, .sh (.int k), y9, y10, y11, .sh (.int M), y13, .sh (.int T), y15]) (.sh (.bl true)) := by
  have l1 : 1 ≤ sizeLine := sz (by decide)
  refine ⟨[y0, y1, y2, y3, y4, y5, y6, .ow L, .sh (.int k), y9, y10, y11, .sh (.int M), y13, .sh (.int T), y15], ?_⟩
  unfold Fn.law_2.s10
  simp only [ev, ↓Res.bind_hide, Res.bindC_ok, Res.bindC_ex, flOf_fl, tstOf_bl, argsOf_args, valOf_val, itsOf_its, List.getElem?_cons_zero, List.getElem?_cons_succ, look_nil, look_vl, look_nm, hand_nil, hand_vl, hand_nm, handM_sh, handM_ow, once_nil, once_vl, once_nm, onceM_sh, onceM_ow, isNm, List.any_nil, List.any_cons, back_nil, back_vl, back_nm, backM_sh, backM_ow, vals_nil, vals_vl, d_sh, d_ow, down_sh, down_ow, Option.bind_some, Option.map_some, pIx_0, pIx_4, ixN_4, cop_eq, cop_ne, cop_gt, cop_lt, cop_le, cop_ge, ofO_some, bop_add, bop_sub, uop_sub, pow18, blt_int, blt_len, blt_abs, blt_list, blt_isi, decide_eq_true_eq, ↓reduceIte, decide_false, decide_true, Bool.false_eq_true, List.length_cons, List.length_nil, Nat.zero_add, Nat.reduceAdd, Nat.reduceLeDiff, Nat.reduceEqDiff, Nat.reduceBEq, List.set_cons_zero, List.set_cons_succ, Nat.reduceLT, Bool.not_true, Bool.not_false, Bool.or_false, Bool.false_or, Bool.and_true, Bool.true_and, beq_self_eq_true, eq_self, ↓ev_seqK, seqK_nx, seqK_rt, seqK_bk, seqK_ct, seqK_ex, tr_bl, Rt_ok, isT_tup, valOf_ex, argsOf_ex, tstOf_ex, flOf_ex, itsOf_ex, pT0, pT1, Int.reduceEq, Int.reduceLT, Int.reduceLE, hi, hl, h0, h1, m0, m1, cx, cy, ct, l1, D.truth] <;> rfl
end LawT
end


section
open PySem PySem.Spec PyProof.Rows L2 RF
namespace LawT
variable {n : Nat}
theorem e_s6 {r : Sl} {k : Int} {D0 : D} (h : CL n 24 [.sh D0, .sh (.int k)] = .ok (r, [.sh D0, .sh (.int k)])) {y0 y1 y2 y3 y4 y5 y6 y7 y9 y10 y11 y12 y14 y15 : Sl} :
    ev sg (CL n) Fn.law_2.s6 [y0, y1, y2, y3, y4, y5, y6, y7, .sh (.int k), y9, y10, y11, y12, .sh D0, y14, y15] = .ok (.fl .nx, [y0, y1, y2, y3, y4, y5, y6, r, .sh (.int k), y9, y10, y11, y12, .sh D0, y14, y15]) := by
  unfold Fn.law_2.s6
  simp only [ev, ↓Res.bind_hide, Res.bindC_ok, Res.bindC_ex, flOf_fl, tstOf_bl, argsOf_args, valOf_val, itsOf_its, List.getElem?_cons_zero, List.getElem?_cons_succ, look_nil, look_vl, look_nm, hand_nil, hand_vl, hand_nm, handM_sh, handM_ow, once_nil, once_vl, once_nm, onceM_sh, onceM_ow, isNm, List.any_nil, List.any_cons, back_nil, back_vl, back_nm, backM_sh, backM_ow, vals_nil, vals_vl, d_sh, d_ow, down_sh, down_ow, Option.bind_some, Option.map_some, pIx_0, pIx_4, ixN_4, cop_eq, cop_ne, cop_gt, cop_lt, cop_le, cop_ge, ofO_some, bop_add, bop_sub, uop_sub, pow18, blt_int, blt_len, blt_abs, blt_list, blt_isi, decide_eq_true_eq, ↓reduceIte, decide_false, decide_true, Bool.false_eq_true, List.length_cons, List.length_nil, Nat.zero_add, Nat.reduceAdd, Nat.reduceLeDiff, Nat.reduceEqDiff, Nat.reduceBEq, List.set_cons_zero, List.set_cons_succ, Nat.reduceLT, Bool.not_true, Bool.not_false, Bool.or_false, Bool.false_or, Bool.and_true, Bool.true_and, beq_self_eq_true, eq_self, ↓ev_seqK, seqK_nx, seqK_rt, seqK_bk, seqK_ct, seqK_ex, tr_bl, Rt_ok, isT_tup, valOf_ex, argsOf_ex, tstOf_ex, flOf_ex, itsOf_ex, pT0, pT1, Int.reduceEq, Int.reduceLT, Int.reduceLE, h] <;> rfl
theorem e_s7 {C : Nat → List Sl → Res (Sl × List Sl)} {y0 y1 y2 y3 y4 y5 y6 y7 y8 y9 y10 y11 y12 y13 y14 y15 : Sl} : ev sg C Fn.law_2.s7 [y0, y1, y2, y3, y4, y5, y6, y7, y8, y9, y10, y11, y12, y13, y14, y15] = .ok (.fl .nx, [y0, y1, y2, y3, y4, y5, y6, y7, y8, y9, y10, y11, y12, y13, .sh (.int 1), y15]) := rfl
theorem ix_cons {x : D} {xs : List D} : pIx (.lst (x :: xs)) (.int 0) = some (.sh x) := by
  show (atI (x :: xs) ((0 : Nat) : Int)).map Sl.sh = _
  rw [atI_nat (v := x) rfl]
  rfl
theorem ix_last {x : D} {xs : List D} {T : Int} (hT : T = (xs.length : Int) + 1) : pIx (.lst (xs ++ [x])) (.int (T - 1)) = some (.sh x) := by
  have e : T - 1 = ((xs.length : Nat) : Int) := by omega
  rw [e]
  show (atI (xs ++ [x]) ((xs.length : Nat) : Int)).map Sl.sh = _
  rw [atI_nat (v := x) (by rw [List.getElem?_append_right (Nat.le_refl _), Nat.sub_self]; rfl)]
  rfl
theorem eq_iT {w : List Int} : pCop .Eq (iT w) (iT w) = some true := by
  have h : (iT w).pl deepest = true := pls_ints (n := 39) w
  rw [cop_eqD h h, eqv_self h]
theorem e_much {C : Nat → List Sl → Res (Sl × List Sl)} {T : Int} (hT : 5000 < T) {y0 y1 y2 y3 y4 y5 y6 y8 y9 y10 y11 y12 y13 y15 : Sl} :
    Rt (ev sg C (.seq Fn.law_2.s9 (.seq Fn.law_2.s10 .skip)) [y0, y1, y2, y3, y4, y5, y6, .sh (.tup [.str "refused", .str "much"]), y8, y9, y10, y11, y12, y13, .sh (.int T), y15]) (.sh (.bl true)) := by
  have l2 : 2 ≤ sizeLine := sz (by decide)
  have he := eq_much (M := .tup [.str "refused", .str "much"]) rfl
  refine ⟨[y0, y1, y2, y3, y4, y5, y6, .sh (.tup [.str "refused", .str "much"]), y8, y9, y10, y11, y12, y13, .sh (.int T), y15], ?_⟩
  unfold Fn.law_2.s9
  simp only [ev, ↓Res.bind_hide, Res.bindC_ok, Res.bindC_ex, flOf_fl, tstOf_bl, argsOf_args, valOf_val, itsOf_its, List.getElem?_cons_zero, List.getElem?_cons_succ, look_nil, look_vl, look_nm, hand_nil, hand_vl, hand_nm, handM_sh, handM_ow, once_nil, once_vl, once_nm, onceM_sh, onceM_ow, isNm, List.any_nil, List.any_cons, back_nil, back_vl, back_nm, backM_sh, backM_ow, vals_nil, vals_vl, d_sh, d_ow, down_sh, down_ow, Option.bind_some, Option.map_some, pIx_0, pIx_4, ixN_4, cop_eq, cop_ne, cop_gt, cop_lt, cop_le, cop_ge, ofO_some, bop_add, bop_sub, uop_sub, pow18, blt_int, blt_len, blt_abs, blt_list, blt_isi, decide_eq_true_eq, ↓reduceIte, decide_false, decide_true, Bool.false_eq_true, List.length_cons, List.length_nil, Nat.zero_add, Nat.reduceAdd, Nat.reduceLeDiff, Nat.reduceEqDiff, Nat.reduceBEq, List.set_cons_zero, List.set_cons_succ, Nat.reduceLT, Bool.not_true, Bool.not_false, Bool.or_false, Bool.false_or, Bool.and_true, Bool.true_and, beq_self_eq_true, eq_self, ↓ev_seqK, seqK_nx, seqK_rt, seqK_bk, seqK_ct, seqK_ex, tr_bl, Rt_ok, isT_tup, valOf_ex, argsOf_ex, tstOf_ex, flOf_ex, itsOf_ex, pT0, pT1, Int.reduceEq, Int.reduceLT, Int.reduceLE, hT, l2, he] <;> rfl
theorem e_few {C : Nat → List Sl → Res (Sl × List Sl)} {T : Int} (hT : ¬ 5000 < T) {L : D} {y y0 y1 y2 y3 y4 y5 y6 y8 y9 y10 y11 y12 y13 y15 : Sl} (h : Rt (ev sg C Fn.law_2.s10 [y0, y1, y2, y3, y4, y5, y6, .ow L, y8, y9, y10, y11, y12, y13, .sh (.int T), y15]) y) :
    Rt (ev sg C (.seq Fn.law_2.s9 (.seq Fn.law_2.s10 .skip)) [y0, y1, y2, y3, y4, y5, y6, .ow L, y8, y9, y10, y11, y12, y13, .sh (.int T), y15]) y := by
  obtain ⟨e, h⟩ := h
  have h9 : ev sg C Fn.law_2.s9 [y0, y1, y2, y3, y4, y5, y6, .ow L, y8, y9, y10, y11, y12, y13, .sh (.int T), y15] = .ok (.fl .nx, [y0, y1, y2, y3, y4, y5, y6, .ow L, y8, y9, y10, y11, y12, y13, .sh (.int T), y15]) := by
    unfold Fn.law_2.s9
    simp only [ev, ↓Res.bind_hide, Res.bindC_ok, Res.bindC_ex, flOf_fl, tstOf_bl, argsOf_args, valOf_val, itsOf_its, List.getElem?_cons_zero, List.getElem?_cons_succ, look_nil, look_vl, look_nm, hand_nil, hand_vl, hand_nm, handM_sh, handM_ow, once_nil, once_vl, once_nm, onceM_sh, onceM_ow, isNm, List.any_nil, List.any_cons, back_nil, back_vl, back_nm, backM_sh, backM_ow, vals_nil, vals_vl, d_sh, d_ow, down_sh, down_ow, Option.bind_some, Option.map_some, pIx_0, pIx_4, ixN_4, cop_eq, cop_ne, cop_gt, cop_lt, cop_le, cop_ge, ofO_some, bop_add, bop_sub, uop_sub, pow18, blt_int, blt_len, blt_abs, blt_list, blt_isi, decide_eq_true_eq, ↓reduceIte, decide_false, decide_true, Bool.false_eq_true, List.length_cons, List.length_nil, Nat.zero_add, Nat.reduceAdd, Nat.reduceLeDiff, Nat.reduceEqDiff, Nat.reduceBEq, List.set_cons_zero, List.set_cons_succ, Nat.reduceLT, Bool.not_true, Bool.not_false, Bool.or_false, Bool.false_or, Bool.and_true, Bool.true_and, beq_self_eq_true, eq_self, ↓ev_seqK, seqK_nx, seqK_rt, seqK_bk, seqK_ct, seqK_ex, tr_bl, Rt_ok, isT_tup, valOf_ex, argsOf_ex, tstOf_ex, flOf_ex, itsOf_ex, pT0, pT1, Int.reduceEq, Int.reduceLT, Int.reduceLE, hT] <;> rfl
  refine ⟨e, ?_⟩
  rw [ev_seqK, h9, seqK_nx, ev_seqK, h, seqK_rt]
theorem law_end {B : Box} (hB : B.Ok) {y0 y2 y3 y4 y5 y6 y7 y8 y9 y10 y11 y12 y13 y14 y15 : Sl} :
    Rt (ev sg (CL n) (.seq Fn.law_2.s3 (.seq Fn.law_2.s4 (.seq Fn.law_2.s5 (.seq Fn.law_2.s6 (.seq Fn.law_2.s7 (.seq Fn.law_2.s8 (.seq Fn.law_2.s9 (.seq Fn.law_2.s10 .skip)))))))) [y0, B.sl, y2, y3, y4, y5, y6, y7, y8, y9, y10, y11, y12, y13, y14, y15]) (.sh (.bl true)) := by
  obtain ⟨r1, B1, h1, d1⟩ := run_take (G := sg) (fs := fs) (n := n + 1 + 1 + 1 + 1 + 1 + 1) (j := 1) rfl (m := 4) hB (by decide) (by decide)
  have r10 := d1.r0
  have r11 := d1.rm
  obtain ⟨M, hM⟩ : ∃ M : Nat, 5 + r1 = (M : Int) := ⟨(5 + r1).toNat, by omega⟩
  have hM4 : M = 5 ∨ M = 6 ∨ M = 7 ∨ M = 8 := by omega
  have m8 : M ≤ 8 := by omega
  have m1 : 1 ≤ M := by omega
  obtain ⟨q, B2, h2, hq, ok2⟩ := pick_ints (G := sg) (fs := fs) (n := n + 1 + 1 + 1 + 1 + 1) (menu := [1, 2, 3, 4, 4, 5]) d1.ok (by decide) (by decide)
  have q0 : 1 ≤ q ∧ q ≤ 5 := by
    simp only [List.mem_cons, List.not_mem_nil, or_false] at hq
    omega
  obtain ⟨N, hN⟩ : ∃ N : Nat, q = (N : Int) + 1 := ⟨(q - 1).toNat, by omega⟩
  have hN5 : N = 0 ∨ N = 1 ∨ N = 2 ∨ N = 3 ∨ N = 4 := by omega
  subst hN
  have e3 : ev sg (CL n) Fn.law_2.s3 [y0, B.sl, y2, y3, y4, y5, y6, y7, y8, y9, y10, y11, y12, y13, y14, y15] = .ok (.fl .nx, [y0, B1.sl, y2, y3, y4, y5, y6, y7, y8, y9, y10, y11, .sh (.int (M : Nat)), y13, y14, y15]) := by
    unfold Fn.law_2.s3
    simp only [ev, ↓Res.bind_hide, Res.bindC_ok, Res.bindC_ex, flOf_fl, tstOf_bl, argsOf_args, valOf_val, itsOf_its, List.getElem?_cons_zero, List.getElem?_cons_succ, look_nil, look_vl, look_nm, hand_nil, hand_vl, hand_nm, handM_sh, handM_ow, once_nil, once_vl, once_nm, onceM_sh, onceM_ow, isNm, List.any_nil, List.any_cons, back_nil, back_vl, back_nm, backM_sh, backM_ow, vals_nil, vals_vl, d_sh, d_ow, down_sh, down_ow, Option.bind_some, Option.map_some, pIx_0, pIx_4, ixN_4, cop_eq, cop_ne, cop_gt, cop_lt, cop_le, cop_ge, ofO_some, bop_add, bop_sub, uop_sub, pow18, blt_int, blt_len, blt_abs, blt_list, blt_isi, decide_eq_true_eq, ↓reduceIte, decide_false, decide_true, Bool.false_eq_true, List.length_cons, List.length_nil, Nat.zero_add, Nat.reduceAdd, Nat.reduceLeDiff, Nat.reduceEqDiff, Nat.reduceBEq, List.set_cons_zero, List.set_cons_succ, Nat.reduceLT, Bool.not_true, Bool.not_false, Bool.or_false, Bool.false_or, Bool.and_true, Bool.true_and, beq_self_eq_true, eq_self, ↓ev_seqK, seqK_nx, seqK_rt, seqK_bk, seqK_ct, seqK_ex, tr_bl, Rt_ok, isT_tup, valOf_ex, argsOf_ex, tstOf_ex, flOf_ex, itsOf_ex, pT0, pT1, Int.reduceEq, Int.reduceLT, Int.reduceLE, h1, hM] <;> rfl
  have h2' : CL n 2 [B1.sl, .ow (.lst [.int 1, .int 2, .int 3, .int 4, .int 4, .int 5])] = .ok (.sh (.int ((N : Int) + 1)), [B2.sl, .ow (.lst [.int 1, .int 2, .int 3, .int 4, .int 4, .int 5])]) := h2
  have l6 : 6 ≤ sizeLine := sz (by decide)
  obtain ⟨K, hK⟩ : ∃ K : Int, K = (N : Int) + 1 := ⟨_, rfl⟩
  have e5 : ∀ S : Sl, ev sg (CL n) Fn.law_2.s5 [y0, B1.sl, y2, y3, y4, y5, y6, y7, y8, y9, y10, y11, .sh (.int (M : Nat)), S, y14, y15] = .ok (.fl .nx, [y0, B2.sl, y2, y3, y4, y5, y6, y7, .sh (.int ((N : Int) + 1)), y9, y10, y11, .sh (.int (M : Nat)), S, y14, y15]) := by
    intro S
    rw [← hK] at h2' ⊢
    unfold Fn.law_2.s5
    simp only [ev, ↓Res.bind_hide, Res.bindC_ok, Res.bindC_ex, flOf_fl, tstOf_bl, argsOf_args, valOf_val, itsOf_its, List.getElem?_cons_zero, List.getElem?_cons_succ, look_nil, look_vl, look_nm, hand_nil, hand_vl, hand_nm, handM_sh, handM_ow, once_nil, once_vl, once_nm, onceM_sh, onceM_ow, isNm, List.any_nil, List.any_cons, back_nil, back_vl, back_nm, backM_sh, backM_ow, vals_nil, vals_vl, d_sh, d_ow, down_sh, down_ow, Option.bind_some, Option.map_some, pIx_0, pIx_4, ixN_4, cop_eq, cop_ne, cop_gt, cop_lt, cop_le, cop_ge, ofO_some, bop_add, bop_sub, uop_sub, pow18, blt_int, blt_len, blt_abs, blt_list, blt_isi, decide_eq_true_eq, ↓reduceIte, decide_false, decide_true, Bool.false_eq_true, List.length_cons, List.length_nil, Nat.zero_add, Nat.reduceAdd, Nat.reduceLeDiff, Nat.reduceEqDiff, Nat.reduceBEq, List.set_cons_zero, List.set_cons_succ, Nat.reduceLT, Bool.not_true, Bool.not_false, Bool.or_false, Bool.false_or, Bool.and_true, Bool.true_and, beq_self_eq_true, eq_self, ↓ev_seqK, seqK_nx, seqK_rt, seqK_bk, seqK_ct, seqK_ex, tr_bl, Rt_ok, isT_tup, valOf_ex, argsOf_ex, tstOf_ex, flOf_ex, itsOf_ex, pT0, pT1, Int.reduceEq, Int.reduceLT, Int.reduceLE, h2', l6] <;> rfl
  have hS := full_ok m8 m1
  have ha : (rg M).length ≤ 1000 := by rw [rg_len]; omega
  have hlen : ∀ k, k ≤ 4 → (pth (rg M) (fullS M) k).length = M ^ (k + 1) := fun k hk => full_len m8 m1 (by omega)
  have hz : ∀ k ≤ N, (pth (rg M) (fullS M) k).length ≤ 100000 := fun k hk => by
    rw [hlen k (by omega)]
    have a1 : M ^ (k + 1) ≤ 8 ^ (k + 1) := Nat.pow_le_pow_left m8 _
    have a2 : 8 ^ (k + 1) ≤ 8 ^ 5 := Nat.pow_le_pow_right (by decide) (by omega)
    have a3 : 8 ^ 5 ≤ 100000 := by decide
    omega
  have lN := hlen N (by omega)
  rw [ev_seqK, e3, seqK_nx, ev_seqK, e_s4 hM4, seqK_nx, ev_seqK, e5, seqK_nx]
  by_cases hb : 5000 < M ^ (N + 1)
  · have ht := told_much (n := n) hS ha (N := N) (by omega) hz (by rw [lN]; exact hb)
    rw [ev_seqK, e_s6 ht, seqK_nx, ev_seqK, e_s7, seqK_nx, ev_seqK, e_s8 hM4 hN5, seqK_nx]
    exact e_much (by omega)
  · have ht := told_ok (n := n) hS ha (N := N) (by omega) hz (by rw [lN]; exact hb)
    rw [ev_seqK, e_s6 ht, seqK_nx, ev_seqK, e_s7, seqK_nx, ev_seqK, e_s8 hM4 hN5, seqK_nx]
    obtain ⟨L1, hL1⟩ := full_first m1 N
    obtain ⟨L2, hL2⟩ := full_last m1 N
    have lL : ((mat (pth (rg M) (fullS M) N)) = .lst ((pth (rg M) (fullS M) N).map iT)) := rfl
    have rz : ∀ z : Int, iT (List.replicate (N + 1) z) = .tup (List.replicate ((N : Int) + 1).toNat (.int z)) := fun z => by
      show D.tup ((List.replicate (N + 1) z).map D.int) = _
      rw [List.map_replicate, show ((N : Int) + 1).toNat = N + 1 by omega]
    refine e_few (by omega) (e_s10 (X := iT (List.replicate (N + 1) 0)) (Y := iT (List.replicate (N + 1) ((M : Int) - 1))) rfl ?_ ?_ ?_ ?_ ?_ eq_iT eq_iT ?_)
    · show slV (.int (((pth (rg M) (fullS M) N).map iT).length : Nat)) = _
      rw [List.length_map, lN]; rfl
    · rw [lL, hL1]
      exact ix_cons
    · have e : (pth (rg M) (fullS M) N).length = L2.length + 1 := by rw [hL2, List.length_append]; rfl
      rw [lN] at e
      rw [lL, hL2, List.map_append]
      exact ix_last (by rw [List.length_map]; omega)
    · rw [rz]
      exact mul_one (by omega) (by omega)
    · rw [rz]
      exact mul_one (by omega) (by omega)
    · rw [cop_eqD pl_int pl_int]
      show some (decide _) = _
      simp
/-- the law -/
theorem math (ns : List Int) (hl : ns.length ≤ 63) : ∃ os, run sg fs 20 32 [.sh (.lst (ns.map .int))] = .ok (.sh (.bl true), os) := by
  suffices h : Rt (ev sg (CL 12) Fn.law_2.b [.sh (.lst (ns.map .int)), .un, .un, .un, .un, .un, .un, .un, .un, .un, .un, .un, .un, .un, .un, .un]) (.sh (.bl true)) by
    obtain ⟨e, h⟩ := h
    exact ⟨_, run_def (F := Fn.law_2) rfl rfl h⟩
  obtain ⟨B0, h0, ok0⟩ := run_box (G := sg) (fs := fs) (n := 18) (j := 0) rfl hl
  obtain ⟨B1, z2, z3, z4, z5, z6, z7, z8, z9, h1, ok1⟩ := law_f1 (n := 12) ok0 (y0 := .sh (.lst (ns.map .int))) (y2 := .un) (y3 := .un) (y4 := .un) (y5 := .un) (y6 := .un) (y7 := .un) (y8 := .un) (y9 := .un) (y10 := .un) (y11 := .un) (y12 := .un) (y13 := .un) (y14 := .un) (y15 := .un)
  obtain ⟨B2, w7, w10, w11, h2, ok2⟩ := law_s2 (n := 12) ok1 (y0 := .sh (.lst (ns.map .int))) (y2 := z2) (y3 := z3) (y4 := z4) (y5 := z5) (y6 := z6) (y7 := z7) (y8 := z8) (y9 := z9) (y10 := .un) (y11 := .un) (y12 := .un) (y13 := .un) (y14 := .un) (y15 := .un)
  have e0 : ev sg (CL 12) Fn.law_2.s0 [.sh (.lst (ns.map .int)), .un, .un, .un, .un, .un, .un, .un, .un, .un, .un, .un, .un, .un, .un, .un] = .ok (.fl .nx, [.sh (.lst (ns.map .int)), B0.sl, .un, .un, .un, .un, .un, .un, .un, .un, .un, .un, .un, .un, .un, .un]) := by
    generalize D.lst (ns.map .int) = S at h0 ⊢
    unfold Fn.law_2.s0
    simp only [ev, ↓Res.bind_hide, Res.bindC_ok, Res.bindC_ex, flOf_fl, tstOf_bl, argsOf_args, valOf_val, itsOf_its, List.getElem?_cons_zero, List.getElem?_cons_succ, look_nil, look_vl, look_nm, hand_nil, hand_vl, hand_nm, handM_sh, handM_ow, once_nil, once_vl, once_nm, onceM_sh, onceM_ow, isNm, List.any_nil, List.any_cons, back_nil, back_vl, back_nm, backM_sh, backM_ow, vals_nil, vals_vl, d_sh, d_ow, down_sh, down_ow, Option.bind_some, Option.map_some, pIx_0, pIx_4, ixN_4, cop_eq, cop_ne, cop_gt, cop_lt, cop_le, cop_ge, ofO_some, bop_add, bop_sub, uop_sub, pow18, blt_int, blt_len, blt_abs, blt_list, blt_isi, decide_eq_true_eq, ↓reduceIte, decide_false, decide_true, Bool.false_eq_true, List.length_cons, List.length_nil, Nat.zero_add, Nat.reduceAdd, Nat.reduceLeDiff, Nat.reduceEqDiff, Nat.reduceBEq, List.set_cons_zero, List.set_cons_succ, Nat.reduceLT, Bool.not_true, Bool.not_false, Bool.or_false, Bool.false_or, Bool.and_true, Bool.true_and, beq_self_eq_true, eq_self, ↓ev_seqK, seqK_nx, seqK_rt, seqK_bk, seqK_ct, seqK_ex, tr_bl, Rt_ok, isT_tup, valOf_ex, argsOf_ex, tstOf_ex, flOf_ex, itsOf_ex, pT0, pT1, Int.reduceEq, Int.reduceLT, Int.reduceLE, h0] <;> rfl
  unfold Fn.law_2.b
  rw [ev_seqK, e0, seqK_nx, ev_seqK]
  rw [show ev sg (CL 12) Fn.law_2.s1 _ = _ from h1, seqK_nx, ev_seqK, h2, seqK_nx]
  exact law_end ok2
end LawT
end


open PySem PySem.W PyProof.Rows RF in
set_option maxRecDepth 100000 in
set_option maxHeartbeats 0 in
theorem PySem.Challenge.cw_manyrooms_k34_paths_of_systems_holds : PySem.Challenge.rw_manyrooms_k34_paths_of_systems.Holds := by
  w_on; o_law; k_head; (case hw => w_witness2)
  k_fill
  refine walkG (l := PySem.Challenge.rw_manyrooms_k34_paths_of_systems) (g := LawT.g) (G := LawT.sg) (fs := LawT.fs) (n := 20) (li := 32) rfl rfl ⟨rfl, by decide, by decide⟩ (fun w h Y => PySem.W.kIn_of Y) rfl ?T (fun ns h => LawT.math ns h)
  case T =>
    intro w mg h KX G
    refine' LawT.tops KX G ?qqa0 ?qql0 ?qqc0 ?qqk0 ?qqa1 ?qql1 ?qqc1 ?qqk1 ?qqa2 ?qql2 ?qqc2 ?qqk2 ?qqa3 ?qql3 ?qqc3 ?qqk3 ?qqa4 ?qql4 ?qqc4 ?qqk4 ?qqa5 ?qql5 ?qqc5 ?qqk5 ?qqa6 ?qql6 ?qqc6 ?qqk6 ?qqa7 ?qql7 ?qqc7 ?qqk7 ?qqa8 ?qql8 ?qqc8 ?qqk8 ?qqa9 ?qql9 ?qqc9 ?qqk9 ?qqa10 ?qql10 ?qqc10 ?qqk10 ?qqa11 ?qql11 ?qqc11 ?qqk11 ?qqa12 ?qql12 ?qqc12 ?qqk12 ?qqa13 ?qql13 ?qqc13 ?qqk13 ?qqa14 ?qql14 ?qqc14 ?qqk14 ?qqa15 ?qql15 ?qqc15 ?qqk15 ?qqa16 ?qql16 ?qqc16 ?qqk16 ?qqa17 ?qql17 ?qqc17 ?qqk17 ?qqa18 ?qql18 ?qqc18 ?qqk18 ?qqz0 ?qqz1 ?qqz2 ?qqz3 ?qqz4 ?qqz5 ?qqz6 ?qqz7 ?qqz8 ?qqz9 ?qqz10 ?qqz11 ?qqg0 ?qqg1 ?qqg2 ?qqge0 ?qqge1 ?qqge2 ?qqge3 ?qqge4 ?qqge5 ?qqxa0 ?qqxb0 ?qqxc0 ?qqxd0 ?qqxa1 ?qqxb1 ?qqxc1 ?qqxd1 ?qqs0_2 ?qqs1_2 ?qqya0 ?qqyb0 ?qqyd0 ?qqye0 ?qqyf0 ?qqyg0 ?qqyh0 ?qqyv0 ?qqyw0 ?qqi0_0 ?qqi0_1 ?qqi0_2 ?qqi0_3 ?qqi0_4 ?qqya1 ?qqyb1 ?qqyd1 ?qqye1 ?qqyf1 ?qqyg1 ?qqyh1 ?qqyv1 ?qqyw1 ?qqi1_0 ?qqi1_1 ?qqi1_2 ?qqi1_3 ?qqi1_4 ?qqa900 ?qql900 ?qqc900 ?qqk900
    (case qqa0 => first | k_is | k_exc | kts_exm | kit_is)
    (case qql0 => first | k_is | k_exc | kts_exm | kit_is)
    (case qqc0 => first | k_is | k_exc | kts_exm | kit_is)
    (case qqk0 => first | k_is | k_exc | kts_exm | kit_is)
    (case qqa1 => first | k_is | k_exc | kts_exm | kit_is)
    (case qql1 => first | k_is | k_exc | kts_exm | kit_is)
    (case qqc1 => first | k_is | k_exc | kts_exm | kit_is)
    (case qqk1 => first | k_is | k_exc | kts_exm | kit_is)
    (case qqa2 => first | k_is | k_exc | kts_exm | kit_is)
    (case qql2 => first | k_is | k_exc | kts_exm | kit_is)
    (case qqc2 => first | k_is | k_exc | kts_exm | kit_is)
    (case qqk2 => first | k_is | k_exc | kts_exm | kit_is)
    (case qqa3 => first | k_is | k_exc | kts_exm | kit_is)
    (case qql3 => first | k_is | k_exc | kts_exm | kit_is)
    (case qqc3 => first | k_is | k_exc | kts_exm | kit_is)
    (case qqk3 => first | k_is | k_exc | kts_exm | kit_is)
    (case qqa4 => first | k_is | k_exc | kts_exm | kit_is)
    (case qql4 => first | k_is | k_exc | kts_exm | kit_is)
    (case qqc4 => first | k_is | k_exc | kts_exm | kit_is)
    (case qqk4 => first | k_is | k_exc | kts_exm | kit_is)
    (case qqa5 => first | k_is | k_exc | kts_exm | kit_is)
    (case qql5 => first | k_is | k_exc | kts_exm | kit_is)
    (case qqc5 => first | k_is | k_exc | kts_exm | kit_is)
    (case qqk5 => first | k_is | k_exc | kts_exm | kit_is)
    (case qqa6 => first | k_is | k_exc | kts_exm | kit_is)
    (case qql6 => first | k_is | k_exc | kts_exm | kit_is)
    (case qqc6 => first | k_is | k_exc | kts_exm | kit_is)
    (case qqk6 => first | k_is | k_exc | kts_exm | kit_is)
    (case qqa7 => first | k_is | k_exc | kts_exm | kit_is)
    (case qql7 => first | k_is | k_exc | kts_exm | kit_is)
    (case qqc7 => first | k_is | k_exc | kts_exm | kit_is)
    (case qqk7 => first | k_is | k_exc | kts_exm | kit_is)
    (case qqa8 => first | k_is | k_exc | kts_exm | kit_is)
    (case qql8 => first | k_is | k_exc | kts_exm | kit_is)
    (case qqc8 => first | k_is | k_exc | kts_exm | kit_is)
    (case qqk8 => first | k_is | k_exc | kts_exm | kit_is)
    (case qqa9 => first | k_is | k_exc | kts_exm | kit_is)
    (case qql9 => first | k_is | k_exc | kts_exm | kit_is)
    (case qqc9 => first | k_is | k_exc | kts_exm | kit_is)
    (case qqk9 => first | k_is | k_exc | kts_exm | kit_is)
    (case qqa10 => first | k_is | k_exc | kts_exm | kit_is)
    (case qql10 => first | k_is | k_exc | kts_exm | kit_is)
    (case qqc10 => first | k_is | k_exc | kts_exm | kit_is)
    (case qqk10 => first | k_is | k_exc | kts_exm | kit_is)
    (case qqa11 => first | k_is | k_exc | kts_exm | kit_is)
    (case qql11 => first | k_is | k_exc | kts_exm | kit_is)
    (case qqc11 => first | k_is | k_exc | kts_exm | kit_is)
    (case qqk11 => first | k_is | k_exc | kts_exm | kit_is)
    (case qqa12 => first | k_is | k_exc | kts_exm | kit_is)
    (case qql12 => first | k_is | k_exc | kts_exm | kit_is)
    (case qqc12 => first | k_is | k_exc | kts_exm | kit_is)
    (case qqk12 => first | k_is | k_exc | kts_exm | kit_is)
    (case qqa13 => first | k_is | k_exc | kts_exm | kit_is)
    (case qql13 => first | k_is | k_exc | kts_exm | kit_is)
    (case qqc13 => first | k_is | k_exc | kts_exm | kit_is)
    (case qqk13 => first | k_is | k_exc | kts_exm | kit_is)
    (case qqa14 => first | k_is | k_exc | kts_exm | kit_is)
    (case qql14 => first | k_is | k_exc | kts_exm | kit_is)
    (case qqc14 => first | k_is | k_exc | kts_exm | kit_is)
    (case qqk14 => first | k_is | k_exc | kts_exm | kit_is)
    (case qqa15 => first | k_is | k_exc | kts_exm | kit_is)
    (case qql15 => first | k_is | k_exc | kts_exm | kit_is)
    (case qqc15 => first | k_is | k_exc | kts_exm | kit_is)
    (case qqk15 => first | k_is | k_exc | kts_exm | kit_is)
    (case qqa16 => first | k_is | k_exc | kts_exm | kit_is)
    (case qql16 => first | k_is | k_exc | kts_exm | kit_is)
    (case qqc16 => first | k_is | k_exc | kts_exm | kit_is)
    (case qqk16 => first | k_is | k_exc | kts_exm | kit_is)
    (case qqa17 => first | k_is | k_exc | kts_exm | kit_is)
    (case qql17 => first | k_is | k_exc | kts_exm | kit_is)
    (case qqc17 => first | k_is | k_exc | kts_exm | kit_is)
    (case qqk17 => first | k_is | k_exc | kts_exm | kit_is)
    (case qqa18 => first | k_is | k_exc | kts_exm | kit_is)
    (case qql18 => first | k_is | k_exc | kts_exm | kit_is)
    (case qqc18 => first | k_is | k_exc | kts_exm | kit_is)
    (case qqk18 => first | k_is | k_exc | kts_exm | kit_is)
    (case qqz0 => first | k_is | k_exc | kts_exm | kit_is)
    (case qqz1 => first | k_is | k_exc | kts_exm | kit_is)
    (case qqz2 => first | k_is | k_exc | kts_exm | kit_is)
    (case qqz3 => first | k_is | k_exc | kts_exm | kit_is)
    (case qqz4 => first | k_is | k_exc | kts_exm | kit_is)
    (case qqz5 => first | k_is | k_exc | kts_exm | kit_is)
    (case qqz6 => first | k_is | k_exc | kts_exm | kit_is)
    (case qqz7 => first | k_is | k_exc | kts_exm | kit_is)
    (case qqz8 => first | k_is | k_exc | kts_exm | kit_is)
    (case qqz9 => first | k_is | k_exc | kts_exm | kit_is)
    (case qqz10 => first | k_is | k_exc | kts_exm | kit_is)
    (case qqz11 => first | k_is | k_exc | kts_exm | kit_is)
    (case qqg0 => first | k_is | k_exc | kts_exm | kit_is)
    (case qqg1 => first | k_is | k_exc | kts_exm | kit_is)
    (case qqg2 => first | k_is | k_exc | kts_exm | kit_is)
    (case qqge0 => first | k_is | k_exc | kts_exm | kit_is)
    (case qqge1 => first | k_is | k_exc | kts_exm | kit_is)
    (case qqge2 => first | k_is | k_exc | kts_exm | kit_is)
    (case qqge3 => first | k_is | k_exc | kts_exm | kit_is)
    (case qqge4 => first | k_is | k_exc | kts_exm | kit_is)
    (case qqge5 => first | k_is | k_exc | kts_exm | kit_is)
    (case qqxa0 => first | k_is | k_exc | kts_exm | kit_is)
    (case qqxb0 => first | k_is | k_exc | kts_exm | kit_is)
    (case qqxc0 => first | k_is | k_exc | kts_exm | kit_is)
    (case qqxd0 => first | k_is | k_exc | kts_exm | kit_is)
    (case qqxa1 => first | k_is | k_exc | kts_exm | kit_is)
    (case qqxb1 => first | k_is | k_exc | kts_exm | kit_is)
    (case qqxc1 => first | k_is | k_exc | kts_exm | kit_is)
    (case qqxd1 => first | k_is | k_exc | kts_exm | kit_is)
    (case qqs0_2 => first | k_is | k_exc | kts_exm | kit_is)
    (case qqs1_2 => first | k_is | k_exc | kts_exm | kit_is)
    (case qqya0 => first | k_is | k_exc | kts_exm | kit_is)
    (case qqyb0 => first | k_is | k_exc | kts_exm | kit_is)
    (case qqyd0 => first | k_is | k_exc | kts_exm | kit_is)
    (case qqye0 => first | k_is | k_exc | kts_exm | kit_is)
    (case qqyf0 => first | k_is | k_exc | kts_exm | kit_is)
    (case qqyg0 => first | k_is | k_exc | kts_exm | kit_is)
    (case qqyh0 => first | k_is | k_exc | kts_exm | kit_is)
    (case qqyv0 => first | k_is | k_exc | kts_exm | kit_is)
    (case qqyw0 => first | k_is | k_exc | kts_exm | kit_is)
    (case qqi0_0 => first | k_is | k_exc | kts_exm | kit_is)
    (case qqi0_1 => first | k_is | k_exc | kts_exm | kit_is)
    (case qqi0_2 => first | k_is | k_exc | kts_exm | kit_is)
    (case qqi0_3 => first | k_is | k_exc | kts_exm | kit_is)
    (case qqi0_4 => first | k_is | k_exc | kts_exm | kit_is)
    (case qqya1 => first | k_is | k_exc | kts_exm | kit_is)
    (case qqyb1 => first | k_is | k_exc | kts_exm | kit_is)
    (case qqyd1 => first | k_is | k_exc | kts_exm | kit_is)
    (case qqye1 => first | k_is | k_exc | kts_exm | kit_is)
    (case qqyf1 => first | k_is | k_exc | kts_exm | kit_is)
    (case qqyg1 => first | k_is | k_exc | kts_exm | kit_is)
    (case qqyh1 => first | k_is | k_exc | kts_exm | kit_is)
    (case qqyv1 => first | k_is | k_exc | kts_exm | kit_is)
    (case qqyw1 => first | k_is | k_exc | kts_exm | kit_is)
    (case qqi1_0 => first | k_is | k_exc | kts_exm | kit_is)
    (case qqi1_1 => first | k_is | k_exc | kts_exm | kit_is)
    (case qqi1_2 => first | k_is | k_exc | kts_exm | kit_is)
    (case qqi1_3 => first | k_is | k_exc | kts_exm | kit_is)
    (case qqi1_4 => first | k_is | k_exc | kts_exm | kit_is)
    (case qqa900 => first | k_is | k_exc | kts_exm | kit_is)
    (case qql900 => first | k_is | k_exc | kts_exm | kit_is)
    (case qqc900 => first | k_is | k_exc | kts_exm | kit_is)
    (case qqk900 => first | k_is | k_exc | kts_exm | kit_is)
