import PyProof.Rows.All
import Wide.All
import OpenK.AllK
import Wide.FinOn
import HandS.SetFor
import HandS.Strs
import HandS.ForMost
import HandS.IsInst
import HandS.Deep
import HandS.Wide
import HandS.TupAny
import HandS.Style
import HandS.Conv
import HandS.SortInts
import HandS.More
import HandS.DictComp
import HandS.Iter
import HandS.SortKw
import KE.DataMinMax
import HandS.Zip
import KE.GoesEnum
import HandS.SetBool
import PySem.Challenge.RW_mapwalked_k02_fitting_and_standing
set_option Elab.async false
set_option linter.all false
set_option maxRecDepth 100000
set_option maxHeartbeats 8000000
/-! Pe: set(list of whole numbers), its members told as SetR. -/
namespace Pe
open PySem PySem.Spec PyProof.Rows L2
section
variable {P : Program} {w : World} {A : Around} {E : Value → Shared → Prop} {s : Shared}
/-- an empty set, as set.__new__ makes it -/
abbrev emptySet (w : World) : Obj := { cls := .type "set", dict := none, data := .set #[] 0 (.fresh 0 0 (!w.params.followText "set-order")) }
/-- what the filled set keeps of the heap -/
def Filled (w : World) (s : Shared) (ns : List Int) (s2 : Shared) : Prop :=
  ∃ h' tk c, s2 = { s with heap := h', toks := tk } ∧ SetR w h' s.heap.objs.size (fun j => decide (j ∈ ns)) c ∧ c ≤ ns.length ∧ ∀ b o, s.heap.get? b = some o → h'.get? b = some o
set_option maxHeartbeats 3200000 in
theorem call_set_lstI {l : Addr} {items : Array Value} (ns : List Int) {Q : Value → Shared → Prop} (hh : A.handled = none) (hl : s.heap.IsList l items) (hit : IntsAre items.toList ns) (hb : ns.length + 1 < scanBound)
    (h : ∀ s2, Filled w s ns s2 → Q (.ref s.heap.objs.size) s2) : wpAny (model P w) A (call (.type "set") [.ref l]) Q E s := by
  have sz : items.size = ns.length := by rw [← Array.length_toList]; exact IntsAre.length hit
  obtain ⟨c, tl, hmro⟩ := F.called_set.mro
  have hmade := F.called_set.made
  have hsub := F.called_set.sub
  refine wpAny_call (codeAny_of_tree ?_)
  show wpAny _ _ (callAny (.type "set") _) _ _ _
  refine wpAny_pure ⟨Code.quiet_builtin _ (by decide +kernel), codeAny_builtin F.entry_type_call ?_⟩
  rw [Around.under_plain (weight_type_call_type "set" [.ref l] []) rfl]
  have h1 := F.called_set.notType
  have h2 := F.called_set.canCreate
  have hct := F.typeCall_set_1 (.ref l)
  repeat (any_goals (first | assumption | wp_step))
  refine codeAny_mono (code_set_led1 (.ref l) (E := E) (Q₁ := fun obj s₁ => obj = .ref s.heap.objs.size ∧ s₁ = { s with heap := s.heap.push (emptySet w) }) ⟨rfl, rfl⟩) fun r s₁ hr => ?_
  match r, hr with
  | .error e, hr => exact hr
  | .ok (.ret obj), ⟨eo, es⟩ =>
    subst eo es
    have new : (s.heap.push (emptySet w)).get? s.heap.objs.size = some (emptySet w) := Heap.get?_push_size _ rfl
    have ty : Shared.TypeIs { s with heap := s.heap.push (emptySet w) } (.ref s.heap.objs.size) "set" := ⟨_, new, rfl⟩
    have hli := F.called_set.init.lookup
    have hbi := F.called_set.init.bind (.ref s.heap.objs.size)
    repeat (any_goals (first | assumption | wp_step))
    refine codeAny_mono (codeAny_call_builtin (R := wants (fun r s₂ => r = .none ∧ Filled w s ns s₂) E) F.called_set.init.plain F.entry_set_init (check_set_init_1 ty ?_)) fun r₂ s₂ hr₂ => ?_
    · obtain ⟨⟨ocls, odict, odata, oslots⟩, hol, hcl, nl, hdl⟩ := hl
      simp only at hcl hdl
      subst hcl hdl
      have old : (s.heap.push (emptySet w)).get? l = some { cls := .type "list", dict := odict, data := .seq items nl, slots := oslots } := Heap.get?_push_of_some _ hol
      have hsls := F.sub_list_set
      have hslf := F.sub_list_frozenset
      have hne : (Value.type "list" == Value.type "dict") = false := by decide
      have isl : (s.heap.push (emptySet w)).IsList l items := ⟨_, old, rfl, nl, rfl⟩
      unfold Builtin.«set.__init__» noKeywords Builtin.Frozenset.updateFrom
      generalize hPI : pyIter = PI
      wp_walk
      subst hPI
      refine wpAny_pyIter_list isl ?_
      refine wpAny_bind (wpAny_runValue ?_)
      have lt : l < s.heap.objs.size := Heap.lt_size hol
      have hh3 : A.in1.in1.in1.handled = none := by simp [hh]
      have ps : (s.heap.push (emptySet w)).objs.size = s.heap.objs.size + 1 := Heap.size_push ..
      have neI : l ≠ (s.heap.push (emptySet w)).objs.size := by rw [ps]; exact Nat.ne_of_lt (Nat.lt_succ_of_lt lt)
      have nfp : s.heap.objs.size ∉ [(s.heap.push (emptySet w)).objs.size, l] := by
        rw [ps]
        simp only [List.mem_cons, List.not_mem_nil, or_false, not_or]
        exact ⟨Nat.ne_of_lt (Nat.lt_succ_self _), Nat.ne_of_gt lt⟩
      have val : ∀ (i : Nat) (v : Value), items[i]? = some v → ∃ k t, ns[i]? = some k ∧ v = .int k t := fun i v hv => by
        have hi : i < ns.length := by rw [← sz]; exact (Array.getElem?_eq_some_iff.mp hv).1
        obtain ⟨t, e⟩ := IntsAre.int_at hit i v (by rw [Array.getElem?_toList]; exact hv)
        refine ⟨ns[i], t, List.getElem?_eq_getElem hi, ?_⟩
        rw [e, List.getD_eq_getElem?_getD, List.getElem?_eq_getElem hi] <;> rfl
      refine set_update_ints ((Walks.list hh3 _ l neI items).toS) s.heap.objs.size nfp ns sz hb val (items.size - 0) 0 _ (by omega) (Nat.zero_le _)
        ⟨⟨_, Heap.get?_push_size _ rfl, rfl, rfl⟩, (isl.push _)⟩ ⟨0, Nat.le_refl 0, setR_new_at (Heap.get?_push_of_some _ new)⟩ fun s' c' hm hc' hS' => ?_
      obtain ⟨h', g2, d', tk', os'⟩ := s'
      have eg : g2 = s.gens := hm.gens
      have ed : d' = s.drawn := hm.drawn
      have eo : os' = s.os := hm.os
      subst eg ed eo
      show wpAny _ _ _ _ _ _
      refine wpAny_pure ?_
      show wpAny _ _ (ret Value.none) _ _ _
      rw [sz] at hc'
      refine wpAny_pure ⟨rfl, h', tk', c', rfl, hS', hc', fun b o e => ?_⟩
      have hb0 : b < s.heap.objs.size := Heap.lt_size e
      exact hm.heap b o (by
        simp only [List.mem_cons, List.not_mem_nil, or_false, not_or]
        exact ⟨Nat.ne_of_lt hb0, by rw [ps]; exact Nat.ne_of_lt (Nat.lt_succ_of_lt hb0)⟩) (Heap.get?_push_of_some _ (Heap.get?_push_of_some _ e))
    · match r₂, hr₂ with
      | .error e, hr₂ => exact hr₂
      | .ok (.ret r), ⟨er, hf⟩ =>
        subst er
        obtain ⟨h', tk, c', e, r1, r2, r3⟩ := id hf
        subst e
        repeat (any_goals (first | assumption | wp_step))
        exact h _ hf
/-- a set's number is the number of its members -/
theorem setR_card {h : Heap} {a : Addr} {ns ms : List Int} {c : Nat} (R : SetR w h a (fun j => decide (j ∈ ns)) c) (nd : ms.Nodup) (hm : ∀ k, k ∈ ms ↔ k ∈ ns) : c = ms.length := by
  obtain ⟨o, es, ep, t, _, _, _, _, nk, mem, _, _, hn, _⟩ := R
  have pm : (es.toList.map keyOf).Perm ms := (List.perm_ext_iff_of_nodup nk nd).mpr fun k => by
    rw [← mem k, decide_eq_true_iff, hm k]
  rw [← pm.length_eq, List.length_map, Array.length_toList, hn]
end
end Pe
/-! Pe: a small evaluator (own syntax by slots, own values), later shown sound over the hand layer. -/
namespace Pe
open PySem

/-- data that never changes -/
inductive D where
  | non | bl (b : Bool) | int (i : Int) | str (x : Str) | tup (xs : List D)
/-- values: data, a list that is held by nobody else, a list that nobody changes, a cell of the heap, a tuple that holds such, a range from 0, a dict that nobody changes -/
inductive PV where
  | d (x : D) | tl (xs : List PV) | fl (xs : List D) | ref (n : Nat) | mt (xs : List PV) | rg (n : Nat) | fd (es : List (Sum Int Str × D))
instance : Inhabited D := ⟨.non⟩
instance : Inhabited PV := ⟨.d .non⟩
inductive Cell where
  | lst (xs : List PV)
abbrev Hs := List Cell
abbrev Env := List (Option PV)
def M (α : Type) : Type := Hs → Option (α × Hs)
def M.ret {α : Type} (a : α) : M α := fun h => some (a, h)
def M.bnd {α β : Type} (m : M α) (f : α → M β) : M β := fun h => match m h with
  | some (a, h1) => f a h1
  | none => none
def M.no {α : Type} : M α := fun _ => none
def M.of {α : Type} : Option α → M α
  | some a => M.ret a
  | none => M.no

inductive BOp where
  | add | sub | mul | fdiv | mod | pow | shl | shr | band | bor | bxor
inductive UOp where
  | neg | inv
inductive COp where
  | eq | ne | lt | le | gt | ge | isN | notN | inn | nin
inductive Ty where
  | int | bool | str | tuple | list
  deriving DecidableEq
inductive Blt where
  | len | tuple | list | all | any | sum | int | abs | max | min | sorted | isi (ts : List Ty)
inductive Mth where
  | append | pop | reverse | extend | popAt | index
/-- targets -/
inductive T where
  | nm (i : Nat) | tup (ts : List T)
mutual
inductive E where
  | var (i : Nat)
  | cst (c : D)
  | bin (o : BOp) (a b : E)
  | un (o : UOp) (a : E)
  | nt (a : E)
  | an (a b : E)
  | orr (a b : E)
  | cmp (o : COp) (a b : E)
  | chn (o p : COp) (a b c : E)
  | ifx (c a b : E)
  | call (f : Nat) (as : List E)
  | callk (f : Nat) (as : List E)
  | blt (b : Blt) (as : List E)
  | mth (m : Mth) (o : E) (as : List E)
  | tup (as : List E)
  | lst (as : List E)
  | idx (a i : E)
  | slc (fl fh : Bool) (a lo hi : E)
  | rsl (a : E)
  | comp (own : List Nat) (tg : T) (it : It) (hc : Bool) (c : E) (elt : E)
  | join (o a : E)
  | lrg (t : Bool) (a : E)
  | rgv (a : E)
  | mxd (mx : Bool) (a : E)
  | sset (a : E)
  | lset (a : E)
  | dcomp (own : List Nat) (tg : T) (it : It) (hc : Bool) (c : E) (k v : E)
  | lsc (own : List Nat) (tg : T) (it : It) (hc : Bool) (c : E) (elt : E)
  | comp2 (own : List Nat) (tg : T) (it : It) (hc : Bool) (c : E) (own1 : List Nat) (tg1 : T) (it1 : It) (hc1 : Bool) (c1 : E) (elt : E)
inductive It where
  | seq (e : E) | enum (e : E) | zip (a b : E) | rng1 (a : E) | rng2 (a b : E) | rngd (a b : E)
end
inductive S where
  | asg (t : T) (e : E)
  | sub (o i e : E)
  | par (i j : Nat) (a b : E)
  | aug (i : Nat) (o : BOp) (e : E)
  | ex (e : E)
  | ret (e : E)
  | retn
  | ife (c : E) (a b : List S)
  | fr (t : T) (it : It) (b : List S)
  | wh (c : E) (b : List S)
  | brk | cnt | pas
inductive Fl where
  | nx (e : Env) | rt (v : PV) | bk (e : Env) | ct (e : Env)

/-! ### data -/
mutual
def D.py : D → PyData
  | .non => .none
  | .bl b => .bool b
  | .int i => .int i
  | .str x => .str x
  | .tup xs => .tuple (D.pys xs)
def D.pys : List D → List PyData
  | [] => []
  | x :: xs => D.py x :: D.pys xs
end
def allD : List PV → Option (List D)
  | [] => some []
  | .d x :: r => match allD r with
    | some xs => some (x :: xs)
    | none => none
  | _ :: _ => none
def mkTup (xs : List PV) : PV := match allD xs with
  | some ds => .d (.tup ds)
  | none => .mt xs
/-- .. of a list that may be written -/
def mutOf : PV → Hs → Option (List PV)
  | .tl xs, _ => some xs
  | .ref n, h => match h[n]? with
    | some (.lst xs) => some xs
    | none => none
  | _, _ => none
/-- a tuple's items -/
def tupOf : PV → Option (List PV)
  | .d (.tup ds) => some (ds.map .d)
  | .mt xs => some xs
  | _ => none
/-- a list's items -/
def lstOf : PV → Hs → Option (List PV)
  | .tl xs, _ => some xs
  | .fl ds, _ => some (ds.map .d)
  | .ref n, h => match h[n]? with
    | some (.lst xs) => some xs
    | none => none
  | _, _ => none
def seqOf (v : PV) (h : Hs) : Option (List PV) := match tupOf v with
  | some xs => some xs
  | none => lstOf v h
mutual
def toPyG (g : Nat → Option PyData) : PV → Option PyData
  | .d x => some x.py
  | .tl xs => match toPysG g xs with
    | some ys => some (.list ys)
    | none => none
  | .fl ds => some (.list (D.pys ds))
  | .mt xs => match toPysG g xs with
    | some ys => some (.tuple ys)
    | none => none
  | .ref n => g n
  | .rg _ => none
  | .fd _ => none
def toPysG (g : Nat → Option PyData) : List PV → Option (List PyData)
  | [] => some []
  | x :: xs => match toPyG g x, toPysG g xs with
    | some y, some ys => some (y :: ys)
    | _, _ => none
end
def pyR (h : Hs) : Nat → Nat → Option PyData
  | 0, _ => none
  | k + 1, n => match h[n]? with
    | some (.lst xs) => match toPysG (pyR h k) xs with
      | some ys => some (.list ys)
      | none => none
    | none => none
def toPy (h : Hs) (v : PV) : Option PyData := toPyG (pyR h 4) v
def eqPy (a b : PyData) : Option Bool := if SeqAt.shaped a && SeqAt.shaped b then some (PyData.eqv a b) else none
def eqV (x y : PV) (h : Hs) : Option Bool := match toPy h x, toPy h y with
  | some a, some b => eqPy a b
  | _, _ => none
def inV (x y : PV) (h : Hs) : Option Bool := match toPy h x, toPy h y with
  | some a, some (.list ds) => if SeqAt.shaped a && SeqAt.shaped (.list ds) then some (ds.any fun z => PyData.eqv z a) else none
  | some a, some (.tuple ds) => if SeqAt.shaped a && SeqAt.shaped (.tuple ds) then some (ds.any fun z => PyData.eqv z a) else none
  | _, _ => none

/-- keys of dicts -/
def keyD : D → Option (Sum Int Str)
  | .int i => some (.inl i)
  | .str s => some (.inr s)
  | _ => none
def dKey : Sum Int Str → D
  | .inl i => .int i
  | .inr s => .str s
def hasK (es : List (Sum Int Str × D)) (k : Sum Int Str) : Bool := es.any fun p => decide (p.1 = k)
def putD (es : List (Sum Int Str × D)) (k : Sum Int Str) (v : D) : List (Sum Int Str × D) :=
  if hasK es k then es.map fun p => if p.1 = k then (p.1, v) else p else es ++ [(k, v)]
/-! ### what a store makes of a value: cells -/
mutual
def conv : PV → Hs → PV × Hs
  | .d x, h => (.d x, h)
  | .fl x, h => (.fl x, h)
  | .ref n, h => (.ref n, h)
  | .rg n, h => (.rg n, h)
  | .fd es, h => (.fd es, h)
  | .tl xs, h => let r := convs xs h; (.ref r.2.length, r.2 ++ [.lst r.1])
  | .mt xs, h => let r := convs xs h; (.mt r.1, r.2)
def convs : List PV → Hs → List PV × Hs
  | [], h => ([], h)
  | x :: xs, h => let r := conv x h; let q := convs xs r.2; (r.1 :: q.1, q.2)
end
/-! ### operators -/
def repS (s : Str) (n : Nat) : Str := ⟨(List.replicate n s.cps).foldl (· ++ ·) #[]⟩
def maxI (n : Int) (ns : List Int) : Int := ns.foldl (fun a b => if a < b then b else a) n
def minI (n : Int) (ns : List Int) : Int := ns.foldl (fun a b => if b < a then b else a) n
def sortI (ns : List Int) : List Int := ns.mergeSort fun a b => decide (a ≤ b)
def strsOf : List PV → Option (List Str)
  | [] => some []
  | .d (.str b) :: r => match strsOf r with
    | some bs => some (b :: bs)
    | none => none
  | _ :: _ => none
def mulOk (i j : Int) : Bool := decide (i.natAbs < 2 ^ 64) || decide (j.natAbs < 2 ^ 64)
def binV (o : BOp) (x y : PV) : M PV := fun h => match o, x, y with
  | .add, .d (.int i), .d (.int j) => some (.d (.int (i + j)), h)
  | .sub, .d (.int i), .d (.int j) => some (.d (.int (i - j)), h)
  | .mul, .d (.int i), .d (.int j) => if mulOk i j then some (.d (.int (i * j)), h) else none
  | .mul, .d (.str s), .d (.int k) => if 2 ≤ k ∧ k ≤ 1000000 ∧ 0 < s.length ∧ s.length * k.toNat ≤ 1000000 then some (.d (.str (repS s k.toNat)), h) else none
  | .mul, .tl xs, .d (.int k) => match allD xs with
    | some ds => if 0 ≤ k ∧ k ≤ 1000000 ∧ xs.length * k.toNat ≤ 1000000 then some (.tl ((List.replicate k.toNat ds).flatten.map .d), h) else none
    | none => none
  | .fdiv, .d (.int i), .d (.int j) => if j ≠ 0 ∧ j.natAbs < 1073741824 then some (.d (.int (i.fdiv j)), h) else none
  | .mod, .d (.int i), .d (.int j) => if j ≠ 0 then some (.d (.int (i.fmod j)), h) else none
  | .pow, .d (.int i), .d (.int j) => if 0 ≤ j ∧ j ≤ 1000000 ∧ i.natAbs < 2 ^ 64 then some (.d (.int (i ^ j.toNat)), h) else none
  | .shl, .d (.int i), .d (.int j) => if 0 ≤ j ∧ j ≤ 1000000 ∧ i.natAbs < 2 ^ 64 then some (.d (.int (i * 2 ^ j.toNat)), h) else none
  | .shr, .d (.int i), .d (.int j) => if 0 ≤ j then some (.d (.int (i / 2 ^ j.toNat)), h) else none
  | .band, .d (.int i), .d (.int j) => some (.d (.int (Builtin.bitAnd i j)), h)
  | .bor, .d (.int i), .d (.int j) => some (.d (.int (Builtin.bitOr i j)), h)
  | .bxor, .d (.int i), .d (.int j) => some (.d (.int (Builtin.bitXor i j)), h)
  | .add, .d (.str a), .d (.str b) => if a.length + b.length ≤ sizeLine then some (.d (.str (a ++ b)), h) else none
  | .add, .d (.tup a), .d (.tup b) => if a.length + b.length ≤ sizeLine then some (.d (.tup (a ++ b)), h) else none
  | .add, x, y => match mutOf x h, mutOf y h with
    | some a, some b => if a.length + b.length ≤ sizeLine then some (.tl (a ++ b), h) else none
    | _, _ => none
  | _, _, _ => none
def augV (o : BOp) (x y : PV) : M PV := fun h => match o, x, y with
  | .add, .d (.int i), .d (.int j) => some (.d (.int (i + j)), h)
  | .sub, .d (.int i), .d (.int j) => some (.d (.int (i - j)), h)
  | _, _, _ => none
def unV (o : UOp) (x : PV) : M PV := fun h => match o, x with
  | .neg, .d (.int i) => some (.d (.int (-i)), h)
  | .inv, .d (.int i) => some (.d (.int (Builtin.bitNot i)), h)
  | _, _ => none
def cmpI (p : Int → Int → Bool) (x y : PV) : Option Bool := match x, y with
  | .d (.int i), .d (.int j) => some (p i j)
  | _, _ => none
def inW (x y : PV) (h : Hs) : Option Bool := match y with
  | .fd es => match x with
    | .d k => (keyD k).map fun k => hasK es k
    | _ => none
  | _ => inV x y h
def cmpV (o : COp) (x y : PV) : M Bool := fun h => match o with
  | .eq => (eqV x y h).map fun b => (b, h)
  | .ne => (eqV x y h).map fun b => (!b, h)
  | .lt => (cmpI (fun i j => decide (i < j)) x y).map fun b => (b, h)
  | .le => (cmpI (fun i j => decide (i ≤ j)) x y).map fun b => (b, h)
  | .gt => (cmpI (fun i j => decide (j < i)) x y).map fun b => (b, h)
  | .ge => (cmpI (fun i j => decide (j ≤ i)) x y).map fun b => (b, h)
  | .isN => match x, y with
    | .d .non, .d .non => some (true, h)
    | _, .d .non => some (false, h)
    | .d (.bl a), .d (.bl b) => some (decide (a = b), h)
    | _, _ => none
  | .notN => match x, y with
    | .d .non, .d .non => some (false, h)
    | _, .d .non => some (true, h)
    | .d (.bl a), .d (.bl b) => some (!decide (a = b), h)
    | _, _ => none
  | .inn => (inW x y h).map fun b => (b, h)
  | .nin => (inW x y h).map fun b => (!b, h)
def boolV (v : PV) : M Bool := fun h => match v with
  | .d (.bl b) => some (b, h)
  | _ => none
def intOf : PV → Option Int
  | .d (.int i) => some i
  | _ => none

def idxV (x i : PV) : M PV := fun h => match i with
  | .d (.int k) => match x with
    | .d (.str s) => if s.length ≤ sizeLine then (L2.atI s.cps.toList k).map fun c => (.d (.str ⟨#[c]⟩), h) else none
    | _ => match seqOf x h with
      | some xs => (L2.atI xs k).map fun v => (v, h)
      | none => none
  | _ => none
/-- a slice of items -/
def cutL {α : Type} (xs : List α) (lo hi : Option Int) : List α := (xs.drop (HT.sIx xs.length 0 lo)).take (HT.sIx xs.length xs.length hi - HT.sIx xs.length 0 lo)
def sliceV (x : PV) (lo hi : Option Int) : M PV := fun h => match x with
  | .d (.tup ds) => some (.d (.tup (cutL ds lo hi)), h)
  | _ => match lstOf x h with
    | some xs => some (.tl (cutL xs lo hi), h)
    | none => none
def optI (f : Bool) (v : PV) : Option (Option Int) := if f then (intOf v).map some else some none

def tyIs (h : Hs) : PV → Ty → Bool
  | .d (.bl _), .bool => true
  | .d (.bl _), .int => true
  | .d (.int _), .int => true
  | .d (.str _), .str => true
  | .d (.tup _), .tuple => true
  | .mt _, .tuple => true
  | .tl _, .list => true
  | .fl _, .list => true
  | .ref _, .list => true
  | _, _ => false
def isRg : PV → Bool
  | .rg _ => true
  | .fd _ => true
  | _ => false
def boolsOf : List PV → Option (List Bool)
  | [] => some []
  | .d (.bl b) :: r => match boolsOf r with
    | some bs => some (b :: bs)
    | none => none
  | _ :: _ => none
def intsOf : List PV → Option (List Int)
  | [] => some []
  | .d (.int b) :: r => match intsOf r with
    | some bs => some (b :: bs)
    | none => none
  | _ :: _ => none
def bltV (b : Blt) (as : List PV) : M PV := fun h => match b, as with
  | .len, [.d (.str s)] => if s.length ≤ sizeLine then some (.d (.int s.length), h) else none
  | .len, [x] => match seqOf x h with
    | some xs => some (.d (.int xs.length), h)
    | none => none
  | .tuple, [x] => match seqOf x h with
    | some xs => some (mkTup xs, h)
    | none => none
  | .list, [.fd es] => if es.length ≤ sizeLine then some (.tl (es.map fun p => .d (dKey p.1)), h) else none
  | .list, [x] => match seqOf x h with
    | some xs => some (.tl xs, h)
    | none => none
  | .all, [x] => match lstOf x h with
    | some xs => (boolsOf xs).map fun bs => (.d (.bl (bs.all id)), h)
    | none => none
  | .any, [x] => match lstOf x h with
    | some xs => (boolsOf xs).map fun bs => (.d (.bl (bs.any id)), h)
    | none => none
  | .sum, [x] => match lstOf x h with
    | some xs => (intsOf xs).map fun bs => (.d (.int bs.sum), h)
    | none => none
  | .int, [.d (.int i)] => some (.d (.int i), h)
  | .int, [.d (.bl b)] => some (.d (.int (if b then 1 else 0)), h)
  | .abs, [.d (.int i)] => some (.d (.int (if i < 0 then -i else i)), h)
  | .max, [.d (.int i), .d (.int j)] => some (.d (.int (if j > i then j else i)), h)
  | .max, [x] => match lstOf x h with
    | some xs => match intsOf xs with
      | some (n :: ns) => some (.d (.int (maxI n ns)), h)
      | _ => none
    | none => none
  | .min, [.d (.int i), .d (.int j)] => some (.d (.int (if j < i then j else i)), h)
  | .min, [x] => match lstOf x h with
    | some xs => match intsOf xs with
      | some (n :: ns) => some (.d (.int (minI n ns)), h)
      | _ => none
    | none => none
  | .sorted, [x] => match lstOf x h with
    | some xs => (intsOf xs).map fun ns => (.tl ((sortI ns).map fun i => .d (.int i)), h)
    | none => none
  | .isi ts, [x] => if isRg x then none else some (.d (.bl (ts.any fun t => tyIs h x t)), h)
  | _, _ => none
/-- what may be stored in the cell n, the frame's own cells beginning at fb -/
def storeOk (fb n : Nat) (v : PV) : Bool := match v with
  | .d _ => true
  | _ => decide (fb ≤ n)
def mthV (fb : Nat) (m : Mth) (o : PV) (as : List PV) : M PV := fun h => match m, o, as with
  | .append, .ref n, [v] => match conv v h with
    | (v', h1) => match h1[n]? with
      | some (.lst xs) => if storeOk fb n v' && decide (xs.length < sizeLine) then some (.d .non, h1.set n (.lst (xs ++ [v']))) else none
      | none => none
  | .pop, .ref n, [] => match h[n]? with
    | some (.lst xs) => match xs[xs.length - 1]? with
      | some v => some (v, h.set n (.lst xs.dropLast))
      | none => none
    | none => none
  | .reverse, .ref n, [] => match h[n]? with
    | some (.lst xs) => some (.d .non, h.set n (.lst xs.reverse))
    | none => none
  | .extend, .ref n, [v] => match mutOf v h, h[n]? with
    | some ys, some (.lst xs) => match allD ys with
      | some _ => if xs.length + ys.length ≤ sizeLine then some (.d .non, h.set n (.lst (xs ++ ys))) else none
      | none => none
    | _, _ => none
  | .popAt, .ref n, [.d (.int k)] => match h[n]? with
    | some (.lst xs) => match L2.ixN xs.length k with
      | some j => match xs[j]? with
        | some v => if -(2 ^ 63) ≤ k ∧ k < 2 ^ 63 then some (v, h.set n (.lst (xs.eraseIdx j))) else none
        | none => none
      | none => none
    | none => none
  | .index, .ref n, [y] => match toPy h (.ref n), toPy h y with
    | some (.list ds), some d => if SeqAt.shaped (.list ds) && SeqAt.shaped d then (match ds.findIdx? fun z => PyData.eqv z d with
      | some j => some (.d (.int (j : Nat)), h)
      | none => none) else none
    | _, _ => none
  | .index, .tl xs, [y] => match toPy h (.tl xs), toPy h y with
    | some (.list ds), some d => if SeqAt.shaped (.list ds) && SeqAt.shaped d then (match ds.findIdx? fun z => PyData.eqv z d with
      | some j => some (.d (.int (j : Nat)), h)
      | none => none) else none
    | _, _ => none
  | _, _, _ => none
/-- sep.join of a list or a tuple of texts -/
def joinV (s x : PV) : M PV := fun h => match s with
  | .d (.str a) => match seqOf x h with
    | some xs => match strsOf xs with
      | some ys => if (ys.map (·.length)).sum + ys.length * a.length ≤ 16777216 then some (.d (.str (Txt.join a ys)), h) else none
      | none => none
    | none => none
  | _ => none
/-- list(range(n)), tuple(range(n)) -/
def lrgV (t : Bool) (x : PV) : M PV := fun h => match x with
  | .d (.int j) => if -(2 ^ 62) ≤ j ∧ j ≤ 16777216 then some (if t then .d (.tup ((List.range j.toNat).map fun i => .int (i : Nat))) else .tl ((List.range j.toNat).map fun i => .d (.int (i : Nat))), h) else none
  | _ => none
def rgvV (x : PV) : M PV := fun h => match x with
  | .d (.int j) => if -(2 ^ 62) ≤ j ∧ j < 2 ^ 62 then some (.rg j.toNat, h) else none
  | _ => none
/-- max(xs, default=None), min(xs, default=None) -/
def bestI (mx : Bool) : List Int → D
  | [] => .non
  | n :: ns => .int (if mx then maxI n ns else minI n ns)
def mxdV (mx : Bool) (x : PV) : M PV := fun h => match lstOf x h with
  | some xs => (intsOf xs).map fun ns => (.d (bestI mx ns), h)
  | none => none
/-- sorted(set(t)), t a tuple or list of whole numbers -/
def insU (x : Int) : List Int → List Int
  | [] => [x]
  | y :: ys => if x < y then x :: y :: ys else if x = y then y :: ys else y :: insU x ys
def setI (ns : List Int) : List Int := ns.foldr insU []
def ssetV (x : PV) : M PV := fun h => match seqOf x h with
  | some xs => match intsOf xs with
    | some ns => if ns.length < 4000 ∧ (setI ns).length < 60 then some (.tl ((setI ns).map fun i => .d (.int i)), h) else none
    | none => none
  | none => none
def setV (fb : Nat) (o i v : PV) : M Unit := fun h => match o, i with
  | .ref n, .d (.int k) => match conv v h with
    | (v', h1) => match h1[n]? with
      | some (.lst xs) => match L2.ixN xs.length k with
        | some j => if storeOk fb n v' then some ((), h1.set n (.lst (xs.set j v'))) else none
        | none => none
      | none => none
  | _, _ => none

/-! ### walks -/
/-- what is walked: items that stay, or a cell -/
inductive Src where
  | imm (xs : List PV) | cell (n : Nat)
def srcOf0 (v : PV) : Option Src := match v with
  | .ref n => some (.cell n)
  | .tl xs => match allD xs with
    | some _ => some (.imm xs)
    | none => none
  | .fl ds => some (.imm (ds.map .d))
  | .d (.tup ds) => some (.imm (ds.map .d))
  | _ => none
def srcOf (v : PV) : M Src := fun h => match srcOf0 v with
  | some s => some (s, h)
  | none => match v with
    | .tl xs => some (.cell (convs xs h).2.length, (convs xs h).2 ++ [.lst (convs xs h).1])
    | .mt xs => some (.imm (convs xs h).1, (convs xs h).2)
    | _ => none
def Src.items (s : Src) (h : Hs) : Option (List PV) := match s with
  | .imm xs => some xs
  | .cell n => match h[n]? with
    | some (.lst xs) => some xs
    | none => none
inductive ItV where
  | seq (s : Src) | enum (s : Src) | zip (s t : Src) | rng (lo : Int) (n : Nat) | rngd (lo : Int) (n : Nat)
/-- what comes at the i-th turn -/
def ItV.at (it : ItV) (h : Hs) (i : Nat) : Option (Option PV) := match it with
  | .seq s => (s.items h).map fun xs => xs[i]?
  | .enum s => (s.items h).map fun xs => xs[i]?.map fun x => mkTup [.d (.int i), x]
  | .zip s t => match s.items h, t.items h with
    | some xs, some ys => some (match xs[i]?, ys[i]? with
      | some x, some y => some (mkTup [x, y])
      | _, _ => none)
    | _, _ => none
  | .rng lo n => some (if i < n then some (.d (.int (lo + i))) else none)
  | .rngd lo n => some (if i < n then some (.d (.int (lo - i))) else none)
def ItV.fuel (it : ItV) (h : Hs) : Nat := match it with
  | .seq s => ((s.items h).getD []).length
  | .enum s => ((s.items h).getD []).length
  | .zip s _ => ((s.items h).getD []).length
  | .rng _ n => n
  | .rngd _ n => n

mutual
def bindT : T → PV → Env → M Env
  | .nm i, v, env => fun h => if i < env.length then some (env.set i (some (conv v h).1), (conv v h).2) else none
  | .tup ts, v, env => match tupOf v with
    | some xs => bindTs ts xs env
    | none => M.no
def bindTs : List T → List PV → Env → M Env
  | [], [], env => M.ret env
  | t :: ts, x :: xs, env => M.bnd (bindT t x env) fun env' => bindTs ts xs env'
  | _, _, _ => M.no
end
def wipeE (env : Env) : List Nat → Env
  | [] => env
  | v :: vs => (wipeE env vs).set v none
/-- a comprehension's turns -/
def cloop (f : PV → M (Option PV)) (it : ItV) : Nat → Nat → List PV → M (List PV)
  | 0, i, acc => fun h => match it.at h i with
    | some none => some (acc, h)
    | _ => none
  | k + 1, i, acc => fun h => match it.at h i with
    | some none => some (acc, h)
    | some (some x) => match f x h with
      | some (some y, h1) => if acc.length < sizeLine then cloop f it k (i + 1) (acc ++ [y]) h1 else none
      | some (none, h1) => cloop f it k (i + 1) acc h1
      | none => none
    | none => none
/-- the different ones, each where it is met first -/
def met (ns : List Int) : List Int := ns.foldl (fun acc x => if x ∈ acc then acc else acc ++ [x]) []
/-- how many different whole numbers -/
def lenS (ys : List PV) : M PV := fun h => match intsOf ys with
  | some ns => if ns.length < 1000 then some (.d (.int (met ns).length), h) else none
  | none => none
/-- len(set(t)) -/
def lsetV (x : PV) : M PV := fun h => match seqOf x h with
  | some xs => lenS xs h
  | none => none
/-- turns that fill a cell -/
def uloop (f : PV → M Unit) (it : ItV) : Nat → Nat → M Unit
  | 0, i => fun h => match it.at h i with
    | some none => some ((), h)
    | _ => none
  | k + 1, i => fun h => match it.at h i with
    | some none => some ((), h)
    | some (some x) => match f x h with
      | some (_, h1) => uloop f it k (i + 1) h1
      | none => none
    | none => none
def pushC (n : Nat) (y : PV) : M Unit := fun h => match y with
  | .d d => match h[n]? with
    | some (.lst xs) => if xs.length < sizeLine then some ((), h.set n (.lst (xs ++ [.d d]))) else none
    | none => none
  | _ => none
/-- a dict comprehension's turns -/
def dloop (f : PV → M (Option (Sum Int Str × D))) (it : ItV) : Nat → Nat → List (Sum Int Str × D) → M (List (Sum Int Str × D))
  | 0, i, acc => fun h => match it.at h i with
    | some none => some (acc, h)
    | _ => none
  | k + 1, i, acc => fun h => match it.at h i with
    | some none => some (acc, h)
    | some (some x) => match f x h with
      | some (some y, h1) => if acc.length < sizeLine then dloop f it k (i + 1) (putD acc y.1 y.2) h1 else none
      | some (none, h1) => dloop f it k (i + 1) acc h1
      | none => none
    | none => none
/-- the pair of a dict's turn -/
def pairM (x y : PV) : M (Option (Sum Int Str × D)) := match x, y with
  | .d k, .d v => match keyD k with
    | some k => M.ret (some (k, v))
    | none => M.no
  | _, _ => M.no
def rngdV (lo hi : Int) : M ItV := fun h => if -(2 ^ 62) ≤ lo ∧ lo < 2 ^ 62 ∧ -(2 ^ 62) ≤ hi ∧ hi < 2 ^ 62 then some (.rngd lo (lo - hi).toNat, h) else none
def seqM (v : PV) : M ItV := match v with
  | .rg n => M.ret (.rng 0 n)
  | v => M.bnd (srcOf v) fun s => M.ret (.seq s)
def rngV (lo hi : Int) : M ItV := fun h => if -(2 ^ 62) ≤ lo ∧ lo < 2 ^ 62 ∧ -(2 ^ 62) ≤ hi ∧ hi < 2 ^ 62 then some (.rng lo (hi - lo).toNat, h) else none

/-- calls whose cells stay: their numbers begin here -/
def KEEP : Nat := 1000000
section
variable (cf : Nat → List PV → M PV) (fb : Nat)
mutual
def evE : E → Env → M PV
  | .var i, env => M.of (match env[i]? with
    | some (some v) => some v
    | _ => none)
  | .cst c, _ => M.ret (.d c)
  | .bin o a b, env => M.bnd (evE a env) fun x => M.bnd (evE b env) fun y => binV o x y
  | .un o a, env => M.bnd (evE a env) fun x => unV o x
  | .nt a, env => M.bnd (evE a env) fun x => M.bnd (boolV x) fun b => M.ret (.d (.bl (!b)))
  | .an a b, env => M.bnd (evE a env) fun x => M.bnd (boolV x) fun c => if c then evE b env else M.ret (.d (.bl false))
  | .orr a b, env => M.bnd (evE a env) fun x => M.bnd (boolV x) fun c => if c then M.ret (.d (.bl true)) else evE b env
  | .cmp o a b, env => M.bnd (evE a env) fun x => M.bnd (evE b env) fun y => M.bnd (cmpV o x y) fun c => M.ret (.d (.bl c))
  | .chn o p a b c, env => M.bnd (evE a env) fun x => M.bnd (evE b env) fun y => M.bnd (cmpV o x y) fun k =>
      if k then M.bnd (evE c env) fun z => M.bnd (cmpV p y z) fun l => M.ret (.d (.bl l)) else M.ret (.d (.bl false))
  | .ifx c a b, env => M.bnd (evE c env) fun x => M.bnd (boolV x) fun k => if k then evE a env else evE b env
  | .call f as, env => M.bnd (evEs as env) fun xs => cf f xs
  | .callk f as, env => M.bnd (evEs as env) fun xs => cf (f + KEEP) (.d (.int (fb : Nat)) :: xs)
  | .blt b as, env => M.bnd (evEs as env) fun xs => bltV b xs
  | .mth m o as, env => M.bnd (evE o env) fun x => M.bnd (evEs as env) fun xs => mthV fb m x xs
  | .tup as, env => M.bnd (evEs as env) fun xs => if xs.length ≤ sizeLine then M.ret (mkTup xs) else M.no
  | .lst as, env => M.bnd (evEs as env) fun xs => if xs.length ≤ sizeLine then M.ret (.tl xs) else M.no
  | .idx a i, env => M.bnd (evE a env) fun x => M.bnd (evE i env) fun y => idxV x y
  | .slc f1 f2 a lo hi, env => M.bnd (evE a env) fun x => M.bnd (if f1 then evE lo env else M.ret (.d .non)) fun l => M.bnd (if f2 then evE hi env else M.ret (.d .non)) fun u =>
      match optI f1 l, optI f2 u with
      | some l, some u => sliceV x l u
      | _, _ => M.no
  | .join o a, env => M.bnd (evE o env) fun x => M.bnd (evE a env) fun y => joinV x y
  | .lrg t a, env => M.bnd (evE a env) fun x => lrgV t x
  | .rgv a, env => M.bnd (evE a env) fun x => rgvV x
  | .mxd mx a, env => M.bnd (evE a env) fun x => mxdV mx x
  | .sset a, env => M.bnd (evE a env) fun x => ssetV x
  | .lset a, env => M.bnd (evE a env) fun x => lsetV x
  | .rsl a, env => M.bnd (evE a env) fun x => fun h => match lstOf x h with
    | some xs => some (.tl xs.reverse, h)
    | none => none
  | .comp own tg it hc c elt, env => M.bnd (evIt it env) fun iv => fun h =>
      match cloop (fun x => M.bnd (bindT tg x (wipeE env own)) fun env1 => M.bnd (if hc then M.bnd (evE c env1) boolV else M.ret true) fun k => if k then M.bnd (evE elt env1) fun y => M.ret (some y) else M.ret none) iv (iv.fuel h) 0 [] h with
      | some (ys, h1) => some (.tl ys, h1)
      | none => none
  | .dcomp own tg it hc c k v, env => M.bnd (evIt it env) fun iv => fun h =>
      match dloop (fun x => M.bnd (bindT tg x (wipeE env own)) fun env1 => M.bnd (if hc then M.bnd (evE c env1) boolV else M.ret true) fun b => if b then M.bnd (evE k env1) fun y => M.bnd (evE v env1) fun z => pairM y z else M.ret none) iv (iv.fuel h) 0 [] h with
      | some (es, h1) => some (.fd es, h1)
      | none => none
  | .lsc own tg it hc c elt, env => M.bnd (evIt it env) fun iv => fun h =>
      match cloop (fun x => M.bnd (bindT tg x (wipeE env own)) fun env1 => M.bnd (if hc then M.bnd (evE c env1) boolV else M.ret true) fun k => if k then M.bnd (evE elt env1) fun y => M.ret (some y) else M.ret none) iv (iv.fuel h) 0 [] h with
      | some (ys, h1) => lenS ys h1
      | none => none
  | .comp2 own tg it hc c own1 tg1 it1 hc1 c1 elt, env => M.bnd (evIt it env) fun iv => fun h =>
      match uloop (fun x => M.bnd (bindT tg x (wipeE env own)) fun env1 => M.bnd (if hc then M.bnd (evE c env1) boolV else M.ret true) fun k =>
        if k then M.bnd (evIt it1 env1) fun iv1 => fun h1 => uloop (fun y => M.bnd (bindT tg1 y (wipeE env1 own1)) fun env2 => M.bnd (if hc1 then M.bnd (evE c1 env2) boolV else M.ret true) fun k1 =>
          if k1 then M.bnd (evE elt env2) fun z => pushC h.length z else M.ret ()) iv1 (iv1.fuel h1) 0 h1 else M.ret ()) iv (iv.fuel h) 0 (h ++ [.lst []]) with
      | some (_, h1) => some (.ref h.length, h1)
      | none => none
def evEs : List E → Env → M (List PV)
  | [], _ => M.ret []
  | e :: es, env => M.bnd (evE e env) fun x => M.bnd (evEs es env) fun xs => M.ret (x :: xs)
def evIt : It → Env → M ItV
  | .seq e, env => M.bnd (evE e env) fun v => seqM v
  | .enum e, env => M.bnd (evE e env) fun v => M.bnd (srcOf v) fun s => M.ret (.enum s)
  | .zip a b, env => M.bnd (evE a env) fun v => M.bnd (evE b env) fun w => if (tupOf v).isSome == (tupOf w).isSome then M.bnd (M.of (srcOf0 v)) fun s => M.bnd (M.of (srcOf0 w)) fun t => M.ret (.zip s t) else M.no
  | .rng1 a, env => M.bnd (evE a env) fun v => match v with
    | .d (.int j) => rngV 0 j
    | _ => M.no
  | .rng2 a b, env => M.bnd (evE a env) fun v => M.bnd (evE b env) fun w => match v, w with
    | .d (.int i), .d (.int j) => rngV i j
    | _, _ => M.no
  | .rngd a b, env => M.bnd (evE a env) fun v => M.bnd (evE b env) fun w => match v, w with
    | .d (.int i), .d (.int j) => rngdV i j
    | _, _ => M.no
end
/-- a for's turns -/
def floop (tg : T) (body : Env → M Fl) (it : ItV) : Nat → Nat → Env → M Fl
  | 0, i, env => fun h => match it.at h i with
    | some none => some (.nx env, h)
    | _ => none
  | k + 1, i, env => fun h => match it.at h i with
    | some none => some (.nx env, h)
    | some (some x) => match M.bnd (bindT tg x env) body h with
      | some (.nx e, h1) => floop tg body it k (i + 1) e h1
      | some (.ct e, h1) => floop tg body it k (i + 1) e h1
      | some (.bk e, h1) => some (.nx e, h1)
      | some (.rt v, h1) => some (.rt v, h1)
      | none => none
    | none => none
/-- a while's turns -/
def wloop (c : Env → M Bool) (body : Env → M Fl) : Nat → Env → M Fl
  | 0, _ => M.no
  | k + 1, env => M.bnd (c env) fun b => if b then M.bnd (body env) fun f => match f with
      | .nx e => wloop c body k e
      | .ct e => wloop c body k e
      | .bk e => M.ret (.nx e)
      | .rt v => M.ret (.rt v)
    else M.ret (.nx env)
def WF : Nat := 100000000
mutual
def evS : S → Env → M Fl
  | .asg t e, env => M.bnd (evE cf fb e env) fun v => M.bnd (bindT t v env) fun env' => M.ret (.nx env')
  | .sub o i e, env => M.bnd (evE cf fb e env) fun v => M.bnd (evE cf fb o env) fun x => M.bnd (evE cf fb i env) fun y => M.bnd (setV fb x y v) fun _ => M.ret (.nx env)
  | .par i j a b, env => M.bnd (evE cf fb a env) fun x => M.bnd (evE cf fb b env) fun y => M.bnd (bindT (.nm j) y env) fun e1 => M.bnd (bindT (.nm i) x e1) fun e2 => M.ret (.nx e2)
  | .aug i o e, env => M.bnd (evE cf fb (.var i) env) fun x => M.bnd (evE cf fb e env) fun y => M.bnd (augV o x y) fun z => M.bnd (bindT (.nm i) z env) fun e1 => M.ret (.nx e1)
  | .ex e, env => M.bnd (evE cf fb e env) fun _ => M.ret (.nx env)
  | .ret e, env => M.bnd (evE cf fb e env) fun v => M.ret (.rt v)
  | .retn, _ => M.ret (.rt (.d .non))
  | .ife c a b, env => M.bnd (evE cf fb c env) fun x => M.bnd (boolV x) fun k => if k then evSs a env else evSs b env
  | .fr t it b, env => M.bnd (evIt cf fb it env) fun iv => fun h => floop t (evSs b) iv (iv.fuel h) 0 env h
  | .wh c b, env => wloop (fun e => M.bnd (evE cf fb c e) boolV) (evSs b) WF env
  | .brk, env => M.ret (.bk env)
  | .cnt, env => M.ret (.ct env)
  | .pas, env => M.ret (.nx env)
def evSs : List S → Env → M Fl
  | [], env => M.ret (.nx env)
  | s :: r, env => M.bnd (evS s env) fun f => match f with
    | .nx e => evSs r e
    | f => M.ret f
end
end

/-! ### calls -/
mutual
def mapRef (g : Nat → Option (PV × List Nat)) : PV → Option (PV × List Nat)
  | .d x => some (.d x, [])
  | .fl x => some (.fl x, [])
  | .rg n => some (.rg n, [])
  | .fd es => some (.fd es, [])
  | .tl xs => match mapRefs g xs with
    | some (ys, l) => some (.tl ys, l)
    | none => none
  | .mt xs => match mapRefs g xs with
    | some (ys, l) => some (.mt ys, l)
    | none => none
  | .ref n => g n
def mapRefs (g : Nat → Option (PV × List Nat)) : List PV → Option (List PV × List Nat)
  | [] => some ([], [])
  | x :: xs => match mapRef g x, mapRefs g xs with
    | some (y, l), some (ys, l2) => some (y :: ys, l ++ l2)
    | _, _ => none
end
def resR (fb : Nat) (h : Hs) : Nat → Nat → Option (PV × List Nat)
  | 0, n => if n < fb then some (.ref n, []) else none
  | k + 1, n => if n < fb then some (.ref n, []) else match h[n]? with
    | some (.lst xs) => match mapRefs (resR fb h k) xs with
      | some (ys, l) => some (.tl ys, n :: l)
      | none => none
    | none => none
def leave (fb : Nat) (v : PV) (h : Hs) : Option (PV × Hs) := match mapRef (resR fb h 4) v with
  | some (v', used) => if used.Nodup then some (v', h.take fb) else none
  | none => none
structure Fn where
  name : Str
  N : List Str
  np : Nat
  body : List S
def call (FT : List Fn) : Nat → Nat → List PV → M PV
  | 0, _, _ => M.no
  | d + 1, f, args => fun h => match FT[f]? with
    | none => match FT[f - KEEP]?, args with
      | some t, .d (.int fb) :: xs => if xs.length = t.np then
          match evSs (call FT d) fb.toNat t.body ((convs xs h).1.map some ++ List.replicate (t.N.length - t.np) none) (convs xs h).2 with
          | some (.rt v, h2) => some (v, h2)
          | some (.nx _, h2) => some (.d .non, h2)
          | _ => none
        else none
      | _, _ => none
    | some t => if args.length = t.np then
        match evSs (call FT d) h.length t.body ((convs args h).1.map some ++ List.replicate (t.N.length - t.np) none) (convs args h).2 with
        | some (.rt v, h2) => leave h.length v h2
        | some (.nx _, h2) => leave h.length (.d .non) h2
        | _ => none
      else none
end Pe
/-! Pe: how the evaluator's values and cells lie in the abstract heap of the hand layer. -/
namespace Pe
open PySem PySem.Spec PyProof.Rows L2

mutual
inductive DR (K : PySem.W.Frag) (H : Hp) : D → V → Prop
  | non : DR K H .non .non
  | bl (b : Bool) : DR K H (.bl b) (.bl b)
  | int (i : Int) : DR K H (.int i) (.int i)
  | str (x : Str) : DR K H (.str x) (.str x)
  | tup {a : Addr} {vs : List V} {ds : List D} (h : SqT K H a vs) (z : ds.length ≤ sizeLine) (r : DRs K H ds vs) : DR K H (.tup ds) (.ref a)
inductive DRs (K : PySem.W.Frag) (H : Hp) : List D → List V → Prop
  | nil : DRs K H [] []
  | cons {x : D} {v : V} {xs : List D} {vs : List V} (h : DR K H x v) (t : DRs K H xs vs) : DRs K H (x :: xs) (v :: vs)
end
/-- a dict's entries -/
inductive FDs (K : PySem.W.Frag) (H : Hp) : List (Sum Int Str × D) → List (Key × V) → Prop
  | nil : FDs K H [] []
  | cons {k : Sum Int Str} {x : D} {v : V} {xs : List (Sum Int Str × D)} {vs : List (Key × V)} (h : DR K H x v) (t : FDs K H xs vs) : FDs K H ((k, x) :: xs) ((k, v) :: vs)
/-- a list of numbers that nobody writes: the script -/
def FzL (K : PySem.W.Frag) (H : Hp) (a : Addr) (vs : List V) : Prop :=
  (∃ o, H a = some (.frz o (.lst vs))) ∨
    ∃ (o : Obj) (its : Array Value) (n : Nat), K.lookup a = some o ∧ o.cls = .type "list" ∧ o.dict = none ∧ o.data = .seq its n ∧ its.size ≤ sizeLine ∧ Vals vs its.toList
theorem FzL.keep' {K : PySem.W.Frag} {H H' : Hp} {a : Addr} {vs : List V} (h : FzL K H a vs) (k : ∀ o u, H a = some (.frz o u) → H' a = some (.frz o u)) : FzL K H' a vs := h.elim (fun ⟨o, e⟩ => .inl ⟨o, k _ _ e⟩) .inr
theorem FzL.sql {K : PySem.W.Frag} {H : Hp} {a : Addr} {vs : List V} (h : FzL K H a vs) : SqL K H a vs := h.elim (fun ⟨o, e⟩ => .inl (.inr ⟨o, e⟩)) .inr
mutual
inductive PR (K : PySem.W.Frag) (α : List Addr) (H : Hp) : PV → V → List Addr → Prop
  | d {x : D} {v : V} (h : DR K H x v) : PR K α H (.d x) v []
  | tl {a : Addr} {vs : List V} {xs : List PV} {L : List Addr} (h : H a = some (.lst vs)) (z : xs.length ≤ sizeLine) (r : PRs K α H xs vs L) : PR K α H (.tl xs) (.ref a) (a :: L)
  | fl {a : Addr} {vs : List V} {ds : List D} (h : FzL K H a vs) (z : ds.length ≤ sizeLine) (r : DRs K H ds vs) : PR K α H (.fl ds) (.ref a) []
  | ref {n : Nat} {a : Addr} (h : α[n]? = some a) : PR K α H (.ref n) (.ref a) []
  | fd {es : List (Sum Int Str × D)} {a : Addr} {kvs : List (Key × V)} {o : Obj} (h : H a = some (.frz o (.dK kvs))) (r : FDs K H es kvs) : PR K α H (.fd es) (.ref a) []
  | rg {n : Nat} {a : Addr} {hi : Int} (h : H a = some (.rng 0 hi)) (b : -(2 ^ 62) ≤ hi ∧ hi < 2 ^ 62) (e : n = hi.toNat) : PR K α H (.rg n) (.ref a) []
  | mt {a : Addr} {vs : List V} {xs : List PV} {L : List Addr} (h : SqT K H a vs) (z : xs.length ≤ sizeLine) (r : PRs K α H xs vs L) : PR K α H (.mt xs) (.ref a) L
inductive PRs (K : PySem.W.Frag) (α : List Addr) (H : Hp) : List PV → List V → List Addr → Prop
  | nil : PRs K α H [] [] []
  | cons {x : PV} {v : V} {xs : List PV} {vs : List V} {L M : List Addr} (h : PR K α H x v L) (t : PRs K α H xs vs M) : PRs K α H (x :: xs) (v :: vs) (L ++ M)
end

/-- what a cell's address holds -/
def isCellO : HO → Prop
  | .lst _ => True
  | .dK _ => True
  | .dT _ => True
  | .set _ _ => True
  | .ext _ => True
  | _ => False
/-- from H to H' all but the cells at S is kept -/
structure Kept (S : Addr → Prop) (H H' : Hp) : Prop where
  cell : ∀ a, S a → ∃ o, H a = some o ∧ isCellO o
  keep : ∀ b o, H b = some o → ¬ S b → H' b = some o
section
variable {K : PySem.W.Frag} {α β : List Addr} {H H' : Hp} {S : Addr → Prop}
theorem Kept.sqt (k : Kept S H H') {a : Addr} {vs : List V} (h : SqT K H a vs) : SqT K H' a vs := by
  have no : ∀ o, H a = some o → ¬ isCellO o → ¬ S a := fun o e n z => by
    obtain ⟨u, e2, c⟩ := k.cell a z
    rw [e] at e2
    cases e2
    exact n c
  rcases h with (h | ⟨o, h⟩) | h
  · exact .inl (.inl (k.keep _ _ h (no _ h (fun z => z))))
  · exact .inl (.inr ⟨o, k.keep _ _ h (no _ h (fun z => z))⟩)
  · exact .inr h
theorem Kept.frz (k : Kept S H H') {a : Addr} {o : Obj} {u : HO} (h : H a = some (.frz o u)) : H' a = some (.frz o u) :=
  k.keep _ _ h fun z => by
    obtain ⟨w, e2, c⟩ := k.cell a z
    rw [h] at e2
    cases e2
    exact c
theorem Kept.rng (k : Kept S H H') {a : Addr} {lo hi : Int} (h : H a = some (.rng lo hi)) : H' a = some (.rng lo hi) :=
  k.keep _ _ h fun z => by
    obtain ⟨w, e2, c⟩ := k.cell a z
    rw [h] at e2
    cases e2
    exact c
mutual
theorem DR.keep (k : Kept S H H') : ∀ (x : D) (v : V), DR K H x v → DR K H' x v
  | .non, _, h => by cases h; exact .non
  | .bl b, _, h => by cases h; exact .bl b
  | .int i, _, h => by cases h; exact .int i
  | .str s, _, h => by cases h; exact .str s
  | .tup ds, _, h => by cases h with | tup h z r => exact .tup (k.sqt h) z (DRs.keep k ds _ r)
theorem DRs.keep (k : Kept S H H') : ∀ (xs : List D) (vs : List V), DRs K H xs vs → DRs K H' xs vs
  | [], _, h => by cases h; exact .nil
  | x :: xs, _, h => by cases h with | cons h t => exact .cons (DR.keep k x _ h) (DRs.keep k xs _ t)
end
theorem FDs.keep (k : Kept S H H') : ∀ {xs : List (Sum Int Str × D)} {vs : List (Key × V)}, FDs K H xs vs → FDs K H' xs vs
  | _, _, .nil => .nil
  | _, _, .cons h t => .cons (DR.keep k _ _ h) (FDs.keep k t)
mutual
theorem PR.keep (k : Kept S H H') (p : ∀ (n : Nat) a, α[n]? = some a → β[n]? = some a) : ∀ (x : PV) (v : V) (L : List Addr), PR K α H x v L → (∀ a ∈ L, ¬ S a) → PR K β H' x v L
  | .d x, _, _, h, _ => by cases h with | d h => exact .d (DR.keep k x _ h)
  | .tl xs, _, _, h, hL => by
    cases h with
    | tl h z r => exact .tl (k.keep _ _ h (hL _ List.mem_cons_self)) z (PRs.keep k p xs _ _ r fun a ha => hL a (List.mem_cons_of_mem _ ha))
  | .fl ds, _, _, h, _ => by cases h with | fl h z r => exact .fl (h.elim (fun ⟨o, e⟩ => .inl ⟨o, k.frz e⟩) .inr) z (DRs.keep k ds _ r)
  | .ref n, _, _, h, _ => by cases h with | ref h => exact .ref (p _ _ h)
  | .rg n, _, _, h, _ => by cases h with | rg h b e => exact .rg (k.rng h) b e
  | .fd es, _, _, h, _ => by cases h with | fd h r => exact .fd (k.frz h) (r.keep k)
  | .mt xs, _, _, h, hL => by cases h with | mt h z r => exact .mt (k.sqt h) z (PRs.keep k p xs _ _ r hL)
theorem PRs.keep (k : Kept S H H') (p : ∀ (n : Nat) a, α[n]? = some a → β[n]? = some a) : ∀ (xs : List PV) (vs : List V) (L : List Addr), PRs K α H xs vs L → (∀ a ∈ L, ¬ S a) → PRs K β H' xs vs L
  | [], _, _, h, _ => by cases h; exact .nil
  | x :: xs, _, _, h, hL => by
    cases h with
    | cons h t => exact .cons (PR.keep k p x _ _ h fun a ha => hL a (List.mem_append_left _ ha)) (PRs.keep k p xs _ _ t fun a ha => hL a (List.mem_append_right _ ha))
end
mutual
theorem PR.own : ∀ (x : PV) (v : V) (L : List Addr), PR K α H x v L → ∀ a ∈ L, ∃ vs, H a = some (.lst vs)
  | .d x, _, _, h, a, ha => by cases h with | d h => cases ha
  | .tl xs, _, _, h, a, ha => by
    cases h with
    | tl h z r =>
      rcases List.mem_cons.mp ha with e | ha
      · rw [e]; exact ⟨_, h⟩
      · exact PRs.own xs _ _ r a ha
  | .fl ds, _, _, h, a, ha => by cases h with | fl h z r => cases ha
  | .ref n, _, _, h, a, ha => by cases h with | ref h => cases ha
  | .rg n, _, _, h, a, ha => by cases h with | rg h => cases ha
  | .fd n, _, _, h, a, ha => by cases h with | fd h => cases ha
  | .mt xs, _, _, h, a, ha => by cases h with | mt h z r => exact PRs.own xs _ _ r a ha
theorem PRs.own : ∀ (xs : List PV) (vs : List V) (L : List Addr), PRs K α H xs vs L → ∀ a ∈ L, ∃ vs, H a = some (.lst vs)
  | [], _, _, h, a, ha => by cases h; cases ha
  | x :: xs, _, _, h, a, ha => by
    cases h with
    | cons h t =>
      rcases List.mem_append.mp ha with ha | ha
      · exact PR.own x _ _ h a ha
      · exact PRs.own xs _ _ t a ha
end
theorem DRs.length : ∀ {xs : List D} {vs : List V}, DRs K H xs vs → xs.length = vs.length
  | [], _, h => by cases h; rfl
  | x :: xs, _, h => by cases h with | cons h t => rw [List.length_cons, List.length_cons, DRs.length t]
theorem PRs.length : ∀ {xs : List PV} {vs : List V} {L : List Addr}, PRs K α H xs vs L → xs.length = vs.length
  | [], _, _, h => by cases h; rfl
  | x :: xs, _, _, h => by cases h with | cons h t => rw [List.length_cons, List.length_cons, PRs.length t]
theorem PRs.append : ∀ {xs : List PV} {vs : List V} {L : List Addr} {ys : List PV} {ws : List V} {M : List Addr}, PRs K α H xs vs L → PRs K α H ys ws M → PRs K α H (xs ++ ys) (vs ++ ws) (L ++ M)
  | [], _, _, _, _, _, h, t => by cases h; exact t
  | x :: xs, _, _, _, _, _, h, t => by
    cases h with
    | cons h r => rw [List.append_assoc]; exact .cons h (PRs.append r t)
theorem PRs.of_ds : ∀ {ds : List D} {vs : List V}, DRs K H ds vs → PRs K α H (ds.map .d) vs []
  | [], _, h => by cases h; exact .nil
  | x :: xs, _, h => by cases h with | cons h t => exact .cons (L := []) (.d h) (PRs.of_ds t)
theorem allD_map (ds : List D) : allD (ds.map .d) = some ds := by
  induction ds with
  | nil => rfl
  | cons x r ih => simp only [List.map_cons, allD, ih]
theorem allD_some : ∀ {xs : List PV} {ds : List D}, allD xs = some ds → xs = ds.map .d
  | [], ds, h => by simp only [allD] at h; cases h; rfl
  | x :: xs, ds, h => by
    cases x with
    | d x =>
      simp only [allD] at h
      cases e : allD xs with
      | none => rw [e] at h; cases h
      | some r => rw [e] at h; cases h; rw [allD_some e]; rfl
    | tl _ => cases h
    | fl _ => cases h
    | ref _ => cases h
    | mt _ => cases h
    | rg _ => cases h
    | fd _ => cases h
theorem PRs.to_ds : ∀ {ds : List D} {vs : List V} {L : List Addr}, PRs K α H (ds.map .d) vs L → DRs K H ds vs ∧ L = []
  | [], _, _, h => by cases h; exact ⟨.nil, rfl⟩
  | x :: xs, _, _, h => by
    cases h with
    | cons h t =>
      cases h with
      | d h =>
        obtain ⟨r, e⟩ := PRs.to_ds t
        subst e
        exact ⟨.cons h r, rfl⟩
/-- the i-th item; what it owns is part of the whole -/
theorem PRs.get : ∀ {xs : List PV} {vs : List V} {L : List Addr} {i : Nat} {x : PV}, PRs K α H xs vs L → xs[i]? = some x → ∃ v M, vs[i]? = some v ∧ PR K α H x v M ∧ M.Sublist L
  | [], _, _, _, _, h, e => by simp at e
  | y :: ys, _, _, 0, x, h, e => by
    cases h with
    | cons h t =>
      simp at e
      subst e
      exact ⟨_, _, rfl, h, List.sublist_append_left _ _⟩
  | y :: ys, _, _, i + 1, x, h, e => by
    cases h with
    | cons h t =>
      obtain ⟨v, M, e2, r, s⟩ := PRs.get (i := i) t (by simpa using e)
      exact ⟨v, M, by simpa using e2, r, s.trans (List.sublist_append_right _ _)⟩
theorem PRs.none {xs : List PV} {vs : List V} {L : List Addr} {i : Nat} (h : PRs K α H xs vs L) (e : xs[i]? = .none) : vs.length ≤ i := by
  rw [← h.length]
  exact List.getElem?_eq_none_iff.mp e
theorem PRs.take : ∀ {xs : List PV} {vs : List V} {L : List Addr} (n : Nat), PRs K α H xs vs L → ∃ M, PRs K α H (xs.take n) (vs.take n) M ∧ M.Sublist L
  | _, _, L, 0, h => ⟨[], by simpa using PRs.nil, List.nil_sublist _⟩
  | [], _, _, n + 1, h => by cases h; exact ⟨[], .nil, List.Sublist.refl _⟩
  | x :: xs, _, _, n + 1, h => by
    cases h with
    | cons h t =>
      obtain ⟨M, r, s⟩ := PRs.take n t
      exact ⟨_, .cons h r, List.Sublist.append (List.Sublist.refl _) s⟩
theorem PRs.drop : ∀ {xs : List PV} {vs : List V} {L : List Addr} (n : Nat), PRs K α H xs vs L → ∃ M, PRs K α H (xs.drop n) (vs.drop n) M ∧ M.Sublist L
  | xs, vs, L, 0, h => ⟨L, by simpa using h, List.Sublist.refl _⟩
  | [], _, _, n + 1, h => by cases h; exact ⟨[], .nil, List.Sublist.refl _⟩
  | x :: xs, _, _, n + 1, h => by
    cases h with
    | cons h t =>
      obtain ⟨M, r, s⟩ := PRs.drop n t
      exact ⟨M, r, s.trans (List.sublist_append_right _ _)⟩
theorem PRs.uncons {x : PV} {xs : List PV} {vs : List V} {L : List Addr} (h : PRs K α H (x :: xs) vs L) : ∃ v ws M N, vs = v :: ws ∧ L = M ++ N ∧ PR K α H x v M ∧ PRs K α H xs ws N := by
  cases h with
  | cons h t => exact ⟨_, _, _, _, rfl, rfl, h, t⟩
theorem PRs.uncons0 {x : PV} {xs : List PV} {vs : List V} (h : PRs K α H (x :: xs) vs []) : ∃ v ws, vs = v :: ws ∧ PR K α H x v [] ∧ PRs K α H xs ws [] := by
  obtain ⟨v, ws, M, N, e, eL, r, t⟩ := h.uncons
  obtain ⟨e1, e2⟩ := List.append_eq_nil_iff.mp eL.symm
  subst e1 e2
  exact ⟨v, ws, e, r, t⟩
theorem PRs.set : ∀ {xs : List PV} {vs : List V} {x : PV} {v : V} (i : Nat), PRs K α H xs vs [] → PR K α H x v [] → PRs K α H (xs.set i x) (vs.set i v) []
  | [], _, _, _, i, h, r => by cases h; exact .nil
  | y :: ys, _, _, _, 0, h, r => by
    obtain ⟨_, _, rfl, _, t⟩ := h.uncons0
    exact .cons (L := []) r t
  | y :: ys, _, _, _, i + 1, h, r => by
    obtain ⟨_, _, rfl, q, t⟩ := h.uncons0
    exact .cons (L := []) q (PRs.set i t r)
theorem PRs.reverse : ∀ {xs : List PV} {vs : List V} {L : List Addr}, PRs K α H xs vs L → ∃ M, PRs K α H xs.reverse vs.reverse M ∧ M.Perm L
  | [], _, _, h => by cases h; exact ⟨[], .nil, List.Perm.refl _⟩
  | x :: xs, _, _, h => by
    cases h with
    | @cons _ v _ vs L M h t =>
      obtain ⟨M', r, s⟩ := PRs.reverse t
      refine ⟨M' ++ (L ++ []), ?_, ?_⟩
      · rw [List.reverse_cons, List.reverse_cons]
        exact r.append (.cons h .nil)
      · rw [List.append_nil]
        exact (List.perm_append_comm).trans (List.Perm.append_left _ s)
theorem PRs.dropLast {xs : List PV} {vs : List V} {L : List Addr} (h : PRs K α H xs vs L) : ∃ M, PRs K α H xs.dropLast vs.dropLast M ∧ M.Sublist L := by
  rw [List.dropLast_eq_take, List.dropLast_eq_take, ← h.length]
  exact h.take _
end

/-! ### references below a bound -/
mutual
def PV.lt (b : Nat) : PV → Prop
  | .d _ => True
  | .fl _ => True
  | .tl xs => PV.lts b xs
  | .mt xs => PV.lts b xs
  | .ref n => n < b
  | .rg _ => True
  | .fd _ => True
def PV.lts (b : Nat) : List PV → Prop
  | [] => True
  | x :: xs => PV.lt b x ∧ PV.lts b xs
end
theorem PV.lts_iff {b : Nat} : ∀ {xs : List PV}, PV.lts b xs ↔ ∀ x ∈ xs, PV.lt b x
  | [] => by simp [PV.lts]
  | x :: xs => by simp [PV.lts, PV.lts_iff (xs := xs)]
def Cell.lt (b : Nat) : Cell → Prop
  | .lst xs => PV.lts b xs
mutual
theorem PR.lt {K : PySem.W.Frag} {α : List Addr} {H : Hp} : ∀ (x : PV) (v : V) (L : List Addr), PR K α H x v L → PV.lt α.length x
  | .d _, _, _, _ => trivial
  | .fl _, _, _, _ => trivial
  | .tl xs, _, _, h => by cases h with | tl h z r => exact PRs.lt xs _ _ r
  | .mt xs, _, _, h => by cases h with | mt h z r => exact PRs.lt xs _ _ r
  | .ref n, _, _, h => by cases h with | ref h => exact (List.getElem?_eq_some_iff.mp h).1
  | .rg _, _, _, _ => trivial
  | .fd _, _, _, _ => trivial
theorem PRs.lt {K : PySem.W.Frag} {α : List Addr} {H : Hp} : ∀ (xs : List PV) (vs : List V) (L : List Addr), PRs K α H xs vs L → PV.lts α.length xs
  | [], _, _, _ => trivial
  | x :: xs, _, _, h => by cases h with | cons h t => exact ⟨PR.lt x _ _ h, PRs.lt xs _ _ t⟩
end
mutual
theorem PR.cut {K : PySem.W.Frag} {α : List Addr} {H : Hp} {b : Nat} : ∀ (x : PV) (v : V) (L : List Addr), PR K α H x v L → PV.lt b x → PR K (α.take b) H x v L
  | .d _, _, _, h, _ => by cases h with | d h => exact .d h
  | .fl _, _, _, h, _ => by cases h with | fl h z r => exact .fl h z r
  | .tl xs, _, _, h, l => by cases h with | tl h z r => exact .tl h z (PRs.cut xs _ _ r l)
  | .mt xs, _, _, h, l => by cases h with | mt h z r => exact .mt h z (PRs.cut xs _ _ r l)
  | .ref n, _, _, h, l => by cases h with | ref h => exact .ref (by rw [List.getElem?_take_of_lt l]; exact h)
  | .rg n, _, _, h, _ => by cases h with | rg h b e => exact .rg h b e
  | .fd n, _, _, h, _ => by cases h with | fd h r => exact .fd h r
theorem PRs.cut {K : PySem.W.Frag} {α : List Addr} {H : Hp} {b : Nat} : ∀ (xs : List PV) (vs : List V) (L : List Addr), PRs K α H xs vs L → PV.lts b xs → PRs K (α.take b) H xs vs L
  | [], _, _, h, _ => by cases h; exact .nil
  | x :: xs, _, _, h, l => by cases h with | cons h t => exact .cons (PR.cut x _ _ h l.1) (PRs.cut xs _ _ t l.2)
end

/-! ### the cells -/
structure Good (K : PySem.W.Frag) (B : List Nat) (α : List Addr) (h : Hs) (H : Hp) : Prop where
  len : α.length = h.length
  nd : α.Nodup
  cell : ∀ (n : Nat) (xs : List PV) (a : Addr), h[n]? = some (.lst xs) → α[n]? = some a → ∃ vs, H a = some (.lst vs) ∧ xs.length ≤ sizeLine ∧ PRs K α H xs vs []
  wf : ∀ b ∈ B, b ≤ h.length ∧ ∀ n c, n < b → h[n]? = some c → Cell.lt b c
/-- from the state (α, H) to (α', H'): older things stay, but the cells -/
structure Step (α : List Addr) (H : Hp) (α' : List Addr) (H' : Hp) : Prop where
  pre : ∃ β, α' = α ++ β ∧ ∀ a ∈ β, H a = none
  keep : ∀ b o, H b = some o → b ∉ α → H' b = some o
  there : ∀ b o, H b = some o → ∃ o', H' b = some o'
section
variable {K : PySem.W.Frag} {B : List Nat} {α β γ : List Addr} {H H1 H2 H' : Hp} {h h1 h2 : Hs}
theorem Step.refl : Step α H α H := ⟨⟨[], by simp, fun _ z => by cases z⟩, fun _ _ e _ => e, fun _ o e => ⟨o, e⟩⟩
theorem Step.trans (s : Step α H β H1) (t : Step β H1 γ H2) : Step α H γ H2 := by
  obtain ⟨b1, e1, f1⟩ := s.pre
  obtain ⟨b2, e2, f2⟩ := t.pre
  have back : ∀ a, H1 a = none → H a = none := fun a n => by
    cases q : H a with
    | none => rfl
    | some o =>
      obtain ⟨o', e⟩ := s.there a o q
      rw [e] at n
      cases n
  refine ⟨⟨b1 ++ b2, by rw [e2, e1, List.append_assoc], fun a ha => ?_⟩, fun b o e nb => ?_, fun b o e => ?_⟩
  · rcases List.mem_append.mp ha with ha | ha
    · exact f1 a ha
    · exact back a (f2 a ha)
  · refine t.keep b o (s.keep b o e nb) fun z => ?_
    rw [e1] at z
    rcases List.mem_append.mp z with z | z
    · exact nb z
    · have := f1 b z
      rw [e] at this
      cases this
  · obtain ⟨o1, q1⟩ := s.there b o e
    exact t.there b o1 q1
theorem Step.ix (s : Step α H β H1) : ∀ (n : Nat) a, α[n]? = some a → β[n]? = some a := fun n a e => by
  obtain ⟨b1, e1, _⟩ := s.pre
  rw [e1, List.getElem?_append_left (List.getElem?_eq_some_iff.mp e).1]
  exact e
theorem Good.at (g : Good K B α h H) {n : Nat} {c : Cell} (e : h[n]? = some c) : ∃ a, α[n]? = some a := by
  have hn : n < α.length := by rw [g.len]; exact (List.getElem?_eq_some_iff.mp e).1
  exact ⟨_, List.getElem?_eq_getElem hn⟩
theorem Good.of_addr (g : Good K B α h H) {a : Addr} (ha : a ∈ α) : ∃ (n : Nat) (xs : List PV) (vs : List V), α[n]? = some a ∧ h[n]? = some (.lst xs) ∧ H a = some (.lst vs) := by
  obtain ⟨n, hn, e⟩ := List.getElem_of_mem ha
  have e1 : α[n]? = some a := by rw [List.getElem?_eq_getElem hn, e]
  have hn2 : n < h.length := by rw [← g.len]; exact hn
  have e2 : h[n]? = some h[n] := List.getElem?_eq_getElem hn2
  cases q : h[n] with
  | lst xs =>
    rw [q] at e2
    obtain ⟨vs, e3, _⟩ := g.cell n xs a e2 e1
    exact ⟨n, xs, vs, e1, e2, e3⟩
theorem Good.kept (g : Good K B α h H) (s : Step α H β H') : Kept (· ∈ α) H H' where
  cell := fun a ha => by
    obtain ⟨n, xs, vs, _, _, e⟩ := g.of_addr ha
    exact ⟨_, e, trivial⟩
  keep := fun b o e nb => s.keep b o e nb
/-- a new object -/
theorem Step.fresh {p : Addr} {o : HO} (n : H p = none) : Step α H α (upd H p o) :=
  ⟨⟨[], by simp, fun _ z => by cases z⟩, fun b u e _ => by rw [upd_ne (ne_of_none e n)]; exact e, fun b u e => ⟨u, by rw [upd_ne (ne_of_none e n)]; exact e⟩⟩
theorem Kept.fresh {p : Addr} {o : HO} (n : H p = none) : Kept (fun _ => False) H (upd H p o) :=
  ⟨fun _ z => z.elim, fun b u e _ => by rw [upd_ne (ne_of_none e n)]; exact e⟩
theorem Good.mono (g : Good K B α h H) (k : Kept (fun _ => False) H H') : Good K B α h H' where
  len := g.len
  nd := g.nd
  wf := g.wf
  cell := fun n xs a e1 e2 => by
    obtain ⟨vs, e, z, r⟩ := g.cell n xs a e1 e2
    exact ⟨vs, k.keep _ _ e fun z => z, z, PRs.keep k (fun _ _ e => e) _ _ _ r fun _ _ z => z⟩
theorem Good.fresh {p : Addr} {o : HO} (g : Good K B α h H) (n : H p = none) : Good K B α h (upd H p o) := g.mono (Kept.fresh n)
theorem lts_append {b : Nat} {xs ys : List PV} (h : PV.lts b xs) (g : PV.lts b ys) : PV.lts b (xs ++ ys) := PV.lts_iff.mpr fun x hx => by
  rcases List.mem_append.mp hx with z | z
  · exact PV.lts_iff.mp h x z
  · exact PV.lts_iff.mp g x z
theorem lts_sub {b : Nat} {xs ys : List PV} (h : PV.lts b xs) (g : ∀ x ∈ ys, x ∈ xs) : PV.lts b ys := PV.lts_iff.mpr fun x hx => PV.lts_iff.mp h x (g x hx)
theorem lts_set {b : Nat} {xs : List PV} {i : Nat} {v : PV} (h : PV.lts b xs) (g : PV.lt b v) : PV.lts b (xs.set i v) := PV.lts_iff.mpr fun x hx => by
  rcases List.mem_or_eq_of_mem_set hx with z | z
  · exact PV.lts_iff.mp h x z
  · rw [z]; exact g
/-- the cell n, at a, gets new items -/
theorem Good.write {n : Nat} {a : Addr} {xs ys : List PV} {ws : List V} (g : Good K B α h H) (e : h[n]? = some (.lst xs)) (ea : α[n]? = some a) (z : ys.length ≤ sizeLine) (r : PRs K α H ys ws [])
    (w : ∀ b ∈ B, n < b → PV.lts b ys) : Good K B α (h.set n (.lst ys)) (upd H a (.lst ws)) ∧ Step α H α (upd H a (.lst ws)) := by
  obtain ⟨vs, ha, _, _⟩ := g.cell n xs a e ea
  have mem : a ∈ α := List.mem_of_getElem? ea
  have k : Kept (· = a) H (upd H a (.lst ws)) := ⟨fun b hb => by subst hb; exact ⟨_, ha, trivial⟩, fun b o q hb => by rw [upd_ne hb]; exact q⟩
  refine ⟨⟨by rw [List.length_set]; exact g.len, g.nd, fun m zs b e1 e2 => ?_, fun b hb => ⟨by rw [List.length_set]; exact (g.wf b hb).1, fun m c hm e1 => ?_⟩⟩, ⟨⟨[], by simp, fun _ z => by cases z⟩, fun b o q nb => ?_, fun b o q => ?_⟩⟩
  · by_cases hm : m = n
    · subst hm
      rw [List.getElem?_set_self (List.getElem?_eq_some_iff.mp e).1] at e1
      have e3 : ys = zs := by cases e1; rfl
      rw [ea] at e2
      cases e2
      subst e3
      exact ⟨ws, upd_same, z, PRs.keep k (fun _ _ e => e) _ _ _ r fun _ z => by cases z⟩
    · rw [List.getElem?_set_ne (Ne.symm hm)] at e1
      obtain ⟨us, eb, zb, rb⟩ := g.cell m zs b e1 e2
      have hba : b ≠ a := fun q => by
        subst q
        have h1 := List.getElem?_eq_some_iff.mp e2
        have h2 := List.getElem?_eq_some_iff.mp ea
        exact hm ((List.getElem_inj g.nd).mp (h1.2.trans h2.2.symm))
      exact ⟨us, by rw [upd_ne hba]; exact eb, zb, PRs.keep k (fun _ _ e => e) _ _ _ rb fun _ z => by cases z⟩
  · by_cases hm2 : m = n
    · subst hm2
      rw [List.getElem?_set_self (List.getElem?_eq_some_iff.mp e).1] at e1
      cases e1
      exact w b hb hm
    · rw [List.getElem?_set_ne (Ne.symm hm2)] at e1
      exact (g.wf b hb).2 m c hm e1
  · rw [upd_ne (fun q => nb (by rw [q]; exact mem))]
    exact q
  · by_cases hb : b = a
    · subst hb; exact ⟨_, upd_same⟩
    · exact ⟨o, by rw [upd_ne hb]; exact q⟩
/-- a list that stands becomes a cell -/
theorem Good.push {a : Addr} {xs : List PV} {vs : List V} (g : Good K B α h H) (na : a ∉ α) (ha : H a = some (.lst vs)) (z : xs.length ≤ sizeLine) (r : PRs K α H xs vs []) : Good K B (α ++ [a]) (h ++ [.lst xs]) H := by
  have p : ∀ (n : Nat) b, α[n]? = some b → (α ++ [a])[n]? = some b := fun n b e => by
    rw [List.getElem?_append_left (List.getElem?_eq_some_iff.mp e).1]; exact e
  have k : Kept (fun _ => False) H H := ⟨fun _ z => z.elim, fun _ _ e _ => e⟩
  refine ⟨by rw [List.length_append, List.length_append, g.len]; rfl, ?_, fun n ys b e1 e2 => ?_, fun b hb => ⟨?_, fun n c hn e => ?_⟩⟩
  · rw [List.nodup_append]
    refine ⟨g.nd, by simp, fun x hx y hy => ?_⟩
    simp only [List.mem_singleton] at hy
    subst hy
    exact fun q => na (by rw [← q]; exact hx)
  · by_cases hn : n < h.length
    · rw [List.getElem?_append_left hn] at e1
      rw [List.getElem?_append_left (by rw [g.len]; exact hn)] at e2
      obtain ⟨us, q1, q2, q3⟩ := g.cell n ys b e1 e2
      exact ⟨us, q1, q2, PRs.keep k p _ _ _ q3 fun _ _ z => z⟩
    · have hn' : n = h.length := by
        have := (List.getElem?_eq_some_iff.mp e1).1
        rw [List.length_append, List.length_singleton] at this
        omega
      subst hn'
      rw [List.getElem?_append_right (Nat.le_refl _), Nat.sub_self] at e1
      rw [← g.len, List.getElem?_append_right (Nat.le_refl _), Nat.sub_self] at e2
      simp only [List.getElem?_cons_zero, Option.some.injEq, Cell.lst.injEq] at e1 e2
      subst e1 e2
      exact ⟨vs, ha, z, PRs.keep k p _ _ _ r fun _ _ z => z⟩
  · rw [List.length_append]
    exact Nat.le_trans (g.wf b hb).1 (Nat.le_add_right _ _)
  · rw [List.getElem?_append_left (Nat.lt_of_lt_of_le hn (g.wf b hb).1)] at e
    exact (g.wf b hb).2 n c hn e
end

/-! ### values that come of a run -/
structure Psts (K : PySem.W.Frag) (B : List Nat) (α0 : List Addr) (H0 : Hp) (α : List Addr) (H : Hp) (h : Hs) (zs : List PV) (vs : List V) (L : List Addr) : Prop where
  step : Step α0 H0 α H
  good : Good K B α h H
  rel : PRs K α H zs vs L
  nd : L.Nodup
  out : ∀ a ∈ L, a ∉ α
  fr : ∀ a ∈ L, H0 a = none
section
variable {K : PySem.W.Frag} {B : List Nat} {α0 α1 α α2 : List Addr} {H0 H1 H H2 : Hp} {h h1 h2 : Hs} {xs ys zs : List PV} {us vs ws : List V} {L M : List Addr}
theorem Step.none_back (s : Step α0 H0 α H) {a : Addr} (n : H a = none) : H0 a = none := by
  cases q : H0 a with
  | none => rfl
  | some o =>
    obtain ⟨o', e⟩ := s.there a o q
    rw [e] at n
    cases n
theorem Psts.nil (g : Good K B α h H) : Psts K B α H α H h [] [] [] := ⟨.refl, g, .nil, List.nodup_nil, fun _ z => absurd z List.not_mem_nil, fun _ z => absurd z List.not_mem_nil⟩
theorem Step.out (s : Step α H α2 H2) {a : Addr} {o : HO} (n : a ∉ α) (e : H a = some o) : a ∉ α2 := fun z => by
  obtain ⟨β, e1, f⟩ := s.pre
  rw [e1] at z
  rcases List.mem_append.mp z with z | z
  · exact n z
  · rw [f a z] at e
    cases e
/-- behind a further step -/
theorem Psts.later (p : Psts K B α0 H0 α H h zs vs L) (s : Step α H α2 H2) (g : Good K B α2 h2 H2) : Psts K B α0 H0 α2 H2 h2 zs vs L :=
  ⟨p.step.trans s, g, PRs.keep (p.good.kept s) s.ix _ _ _ p.rel p.out, p.nd, fun a ha => by
    obtain ⟨us, e⟩ := PRs.own _ _ _ p.rel a ha
    exact s.out (p.out a ha) e, p.fr⟩
theorem Psts.app (p : Psts K B α0 H0 α H h xs vs L) (q : Psts K B α H α2 H2 h2 ys ws M) : Psts K B α0 H0 α2 H2 h2 (xs ++ ys) (vs ++ ws) (L ++ M) := by
  have p' := p.later q.step q.good
  refine ⟨p'.step, q.good, p'.rel.append q.rel, ?_, fun a ha => ?_, fun a ha => ?_⟩
  · rw [List.nodup_append]
    refine ⟨p.nd, q.nd, fun a ha b hb e => ?_⟩
    subst e
    obtain ⟨us, e⟩ := PRs.own _ _ _ p.rel a ha
    rw [q.fr a hb] at e
    cases e
  · rcases List.mem_append.mp ha with z | z
    · exact p'.out a z
    · exact q.out a z
  · rcases List.mem_append.mp ha with z | z
    · exact p.fr a z
    · exact p.step.none_back (q.fr a z)
/-- another value of the same state -/
theorem Psts.to (p : Psts K B α0 H0 α H h xs vs L) (r : PRs K α H ys ws M) (s : M.Sublist L) : Psts K B α0 H0 α H h ys ws M :=
  ⟨p.step, p.good, r, p.nd.sublist s, fun a ha => p.out a (s.subset ha), fun a ha => p.fr a (s.subset ha)⟩
/-- a new object -/
theorem Psts.fresh {q : Addr} {o : HO} (p : Psts K B α0 H0 α H h xs vs L) (n : H q = none) : Psts K B α0 H0 α (upd H q o) h xs vs L := p.later (Step.fresh n) (p.good.fresh n)
theorem Psts.fresh_out {q : Addr} (p : Psts K B α0 H0 α H h xs vs L) (n : H q = none) : q ∉ α ∧ H0 q = none ∧ q ∉ L := by
  refine ⟨fun z => ?_, p.step.none_back n, fun z => ?_⟩
  · obtain ⟨_, _, us, _, _, e⟩ := p.good.of_addr z
    rw [n] at e
    cases e
  · obtain ⟨us, e⟩ := PRs.own _ _ _ p.rel q z
    rw [n] at e
    cases e
/-- .. that is a list of such values -/
theorem Psts.newList {q : Addr} (p : Psts K B α0 H0 α H h xs vs L) (n : H q = none) (r : PRs K α H ys ws M) (s : M.Sublist L) (z : ys.length ≤ sizeLine) : Psts K B α0 H0 α (upd H q (.lst ws)) h [.tl ys] [.ref q] (q :: M) := by
  obtain ⟨f1, f2, f3⟩ := p.fresh_out n
  have p1 := (p.to r s).fresh (o := .lst ws) n
  refine ⟨p1.step, p1.good, ?_, ?_, fun a ha => ?_, fun a ha => ?_⟩
  · have := PRs.cons (PR.tl (K := K) (α := α) (H := upd H q (.lst ws)) upd_same z p1.rel) .nil
    rw [List.append_nil] at this
    exact this
  · exact List.nodup_cons.mpr ⟨fun z => f3 (s.subset z), p1.nd⟩
  · rcases List.mem_cons.mp ha with e | ha
    · rw [e]; exact f1
    · exact p1.out a ha
  · rcases List.mem_cons.mp ha with e | ha
    · rw [e]; exact f2
    · exact p1.fr a ha
theorem Psts.one {x : PV} {v : V} (p : Psts K B α0 H0 α H h [x] [v] L) : PR K α H x v L := by
  obtain ⟨_, _, r, _, _, _⟩ := p
  cases r with
  | cons r t =>
    cases t
    rw [List.append_nil]
    exact r
theorem PR.ones {x : PV} {v : V} (r : PR K α H x v L) : PRs K α H [x] [v] L := by
  have := PRs.cons r .nil
  rw [List.append_nil] at this
  exact this
end

/-! ### data as the model's -/
section
variable {K : PySem.W.Frag} {α : List Addr} {H : Hp}
mutual
theorem DR.dp : ∀ (x : D) (v : V), DR K H x v → Dp K H v x.py
  | .non, _, h => by cases h; exact .non
  | .bl b, _, h => by cases h; exact .bl b
  | .int i, _, h => by cases h; exact .int i
  | .str s, _, h => by cases h; exact .str s
  | .tup ds, _, h => by cases h with | tup h z r => exact .tup h (DRs.dp ds _ r)
theorem DRs.dp : ∀ (xs : List D) (vs : List V), DRs K H xs vs → DpAll K H vs (D.pys xs)
  | [], _, h => by cases h; exact .nil
  | x :: xs, _, h => by cases h with | cons h t => exact .cons (DR.dp x _ h) (DRs.dp xs _ t)
end
end
end Pe
/-! Pe: stores make cells; the operators keep the relation. -/
namespace Pe
open PySem PySem.Spec PyProof.Rows L2

section
variable {K : PySem.W.Frag} {B : List Nat} {H : Hp}
theorem PR.same {α β : List Addr} {x : PV} {v : V} {L : List Addr} (r : PR K α H x v L) (p : ∀ (n : Nat) a, α[n]? = some a → β[n]? = some a) : PR K β H x v L :=
  PR.keep (S := fun _ => False) ⟨fun _ z => z.elim, fun _ _ e _ => e⟩ p _ _ _ r fun _ _ z => z
theorem PRs.same {α β : List Addr} {x : List PV} {v : List V} {L : List Addr} (r : PRs K α H x v L) (p : ∀ (n : Nat) a, α[n]? = some a → β[n]? = some a) : PRs K β H x v L :=
  PRs.keep (S := fun _ => False) ⟨fun _ z => z.elim, fun _ _ e _ => e⟩ p _ _ _ r fun _ _ z => z
theorem ix_app {α β : List Addr} : ∀ (n : Nat) a, α[n]? = some a → (α ++ β)[n]? = some a := fun n a e => by
  rw [List.getElem?_append_left (List.getElem?_eq_some_iff.mp e).1]
  exact e
mutual
theorem conv_ok : ∀ (v : PV) (u : V) (L α : List Addr) (h : Hs), Good K B α h H → PR K α H v u L → L.Nodup → (∀ a ∈ L, a ∉ α) →
    ∃ β, (∀ a ∈ β, a ∈ L) ∧ Good K B (α ++ β) (conv v h).2 H ∧ PR K (α ++ β) H (conv v h).1 u []
  | .d x, _, _, α, h, g, r, _, _ => by
    cases r with
    | d r => exact ⟨[], fun _ z => absurd z List.not_mem_nil, by rw [List.append_nil]; exact g, .d r⟩
  | .fl x, _, _, α, h, g, r, _, _ => by
    cases r with
    | fl q z r => exact ⟨[], fun _ z => absurd z List.not_mem_nil, by rw [List.append_nil]; exact g, .fl q z r⟩
  | .ref n, _, _, α, h, g, r, _, _ => by
    cases r with
    | ref q => exact ⟨[], fun _ z => absurd z List.not_mem_nil, by rw [List.append_nil]; exact g, by rw [List.append_nil]; exact .ref q⟩
  | .rg n, _, _, α, h, g, r, _, _ => by
    cases r with
    | rg q b e => exact ⟨[], fun _ z => absurd z List.not_mem_nil, by rw [List.append_nil]; exact g, .rg q b e⟩
  | .fd n, _, _, α, h, g, r, _, _ => by
    cases r with
    | fd q b => exact ⟨[], fun _ z => absurd z List.not_mem_nil, by rw [List.append_nil]; exact g, .fd q b⟩
  | .tl xs, _, _, α, h, g, r, nd, out => by
    cases r with
    | @tl a vs _ L q z r =>
      obtain ⟨n1, n2⟩ := List.nodup_cons.mp nd
      obtain ⟨β, hβ, g1, r1⟩ := convs_ok xs vs L α h g r n2 fun b hb => out b (List.mem_cons_of_mem _ hb)
      have na : a ∉ α ++ β := fun z => by
        rcases List.mem_append.mp z with z | z
        · exact out a List.mem_cons_self z
        · exact n1 (hβ a z)
      have hz : (convs xs h).1.length ≤ sizeLine := by rw [r1.length, ← r.length]; exact z
      have g2 := g1.push na q hz r1
      refine ⟨β ++ [a], fun b hb => ?_, by rw [← List.append_assoc]; exact g2, ?_⟩
      · rcases List.mem_append.mp hb with z | z
        · exact List.mem_cons_of_mem _ (hβ b z)
        · simp only [List.mem_singleton] at z
          rw [z]
          exact List.mem_cons_self
      · show PR K (α ++ (β ++ [a])) H (.ref (convs xs h).2.length) (.ref a) []
        refine .ref ?_
        rw [← List.append_assoc, ← g1.len, List.getElem?_append_right (Nat.le_refl _), Nat.sub_self]
        rfl
  | .mt xs, _, _, α, h, g, r, nd, out => by
    cases r with
    | mt q z r =>
      obtain ⟨β, hβ, g1, r1⟩ := convs_ok xs _ _ α h g r nd out
      exact ⟨β, hβ, g1, .mt q (by rw [r1.length, ← r.length]; exact z) r1⟩
theorem convs_ok : ∀ (xs : List PV) (us : List V) (L α : List Addr) (h : Hs), Good K B α h H → PRs K α H xs us L → L.Nodup → (∀ a ∈ L, a ∉ α) →
    ∃ β, (∀ a ∈ β, a ∈ L) ∧ Good K B (α ++ β) (convs xs h).2 H ∧ PRs K (α ++ β) H (convs xs h).1 us []
  | [], _, _, α, h, g, r, _, _ => by
    cases r
    exact ⟨[], fun _ z => absurd z List.not_mem_nil, by rw [List.append_nil]; exact g, .nil⟩
  | x :: xs, _, _, α, h, g, r, nd, out => by
    cases r with
    | @cons _ u _ us L M r t =>
      obtain ⟨d1, d2, d3⟩ := List.nodup_append.mp nd
      obtain ⟨β, hβ, g1, r1⟩ := conv_ok x u L α h g r d1 fun a ha => out a (List.mem_append_left _ ha)
      have t1 : PRs K (α ++ β) H xs us M := t.same ix_app
      obtain ⟨γ, hγ, g2, r2⟩ := convs_ok xs us M (α ++ β) (conv x h).2 g1 t1 d2 fun a ha z => by
        rcases List.mem_append.mp z with z | z
        · exact out a (List.mem_append_right _ ha) z
        · exact d3 a (hβ a z) a ha rfl
      refine ⟨β ++ γ, fun a ha => ?_, by rw [← List.append_assoc]; exact g2, ?_⟩
      · rcases List.mem_append.mp ha with z | z
        · exact List.mem_append_left _ (hβ a z)
        · exact List.mem_append_right _ (hγ a z)
      · rw [← List.append_assoc]
        exact .cons (L := []) (r1.same ix_app) r2
end
/-- a value is stored: what it owns becomes cells -/
theorem Psts.conv {α0 α : List Addr} {H0 : Hp} {h : Hs} {v : PV} {u : V} {L : List Addr} (p : Psts K B α0 H0 α H h [v] [u] L) :
    ∃ α', Psts K B α0 H0 α' H (Pe.conv v h).2 [(Pe.conv v h).1] [u] [] ∧ (∀ (n : Nat) a, α[n]? = some a → α'[n]? = some a) ∧ ∀ a ∈ α', a ∈ α ∨ a ∈ L := by
  obtain ⟨β, hβ, g, r⟩ := conv_ok v u L α h p.good p.one p.nd p.out
  obtain ⟨γ, e, f⟩ := p.step.pre
  refine ⟨α ++ β, ⟨⟨⟨γ ++ β, by rw [e, List.append_assoc], fun a ha => ?_⟩, p.step.keep, p.step.there⟩, g, r.ones, List.nodup_nil, fun _ z => absurd z List.not_mem_nil, fun _ z => absurd z List.not_mem_nil⟩, ix_app, fun a ha => (List.mem_append.mp ha).imp id (hβ a)⟩
  rcases List.mem_append.mp ha with z | z
  · exact f a z
  · exact p.fr a (hβ a z)
theorem Psts.convs {α0 α : List Addr} {H0 : Hp} {h : Hs} {vs : List PV} {us : List V} {L : List Addr} (p : Psts K B α0 H0 α H h vs us L) :
    ∃ α', Psts K B α0 H0 α' H (Pe.convs vs h).2 (Pe.convs vs h).1 us [] ∧ (∀ (n : Nat) a, α[n]? = some a → α'[n]? = some a) ∧ ∀ a ∈ α', a ∈ α ∨ a ∈ L := by
  obtain ⟨β, hβ, g, r⟩ := convs_ok vs us L α h p.good p.rel p.nd p.out
  obtain ⟨γ, e, f⟩ := p.step.pre
  refine ⟨α ++ β, ⟨⟨⟨γ ++ β, by rw [e, List.append_assoc], fun a ha => ?_⟩, p.step.keep, p.step.there⟩, g, r, List.nodup_nil, fun _ z => absurd z List.not_mem_nil, fun _ z => absurd z List.not_mem_nil⟩, ix_app, fun a ha => (List.mem_append.mp ha).imp id (hβ a)⟩
  rcases List.mem_append.mp ha with z | z
  · exact f a z
  · exact p.fr a (hβ a z)
end

/-! ### rules by what they say -/
def OpS (X : Cx) (f : Value → Value → Sem Value) : R2 := fun x y H Q => ∀ (pins : List (Addr × Obj)) (s : Shared) (σ : L2.St) (v u : Value), Inv X pins σ H s → RelV x v → RelV y u → wpAny (model X.prog X.w) X.A (f v u) (EP X pins σ Q) X.xe s
theorem ops_rule {X : Cx} {f : Value → Value → Sem Value} : OpR X f (OpS X f) := fun pins s σ _ _ _ v u _ I rx ry h => h pins s σ v u I rx ry
theorem OpS.use {X : Cx} {f : Value → Value → Sem Value} {r : R2} {x y : V} {H : Hp} {Q : VK} (o : OpR X f r) (h : r x y H Q) : OpS X f x y H Q := fun pins s σ v u I rx ry => o pins s σ H x y v u Q I rx ry h
def UnS (X : Cx) (f : Value → Sem Value) : V → Hp → VK → Prop := fun x H Q => ∀ (pins : List (Addr × Obj)) (s : Shared) (σ : L2.St) (v : Value), Inv X pins σ H s → RelV x v → wpAny (model X.prog X.w) X.A (f v) (EP X pins σ Q) X.xe s
theorem uns_rule {X : Cx} {f : Value → Sem Value} : UnR X f (UnS X f) := fun pins s σ _ _ v _ I rx h => h pins s σ v I rx
theorem UnS.use {X : Cx} {f : Value → Sem Value} {r : V → Hp → VK → Prop} {x : V} {H : Hp} {Q : VK} (o : UnR X f r) (h : r x H Q) : UnS X f x H Q := fun pins s σ v I rx => o pins s σ H x v Q I rx h
def CallS (X : Cx) (f : Value) : List V → Hp → VK → Prop := fun xs H Q => ∀ (pins : List (Addr × Obj)) (s : Shared) (σ : L2.St) (us : List Value), Inv X pins σ H s → Vals xs us → wpAny (model X.prog X.w) X.A (PySem.call f us) (EP X pins σ Q) X.xe s
theorem calls_rule {X : Cx} {f : Value} : CallR X f (CallS X f) := fun pins s σ _ _ us _ I r h => h pins s σ us I r
theorem CallS.use {X : Cx} {f : Value} {r : List V → Hp → VK → Prop} {xs : List V} {H : Hp} {Q : VK} (o : CallR X f r) (h : r xs H Q) : CallS X f xs H Q := fun pins s σ us I rx => o pins s σ H xs us Q I rx h

section
variable {K : PySem.W.Frag} {B : List Nat} {α0 α : List Addr} {H0 H : Hp} {h h' : Hs} {x y z v : PV} {u w vv : V} {L M : List Addr}
theorem Psts.dat {xs : List PV} {us : List V} (p : Psts K B α0 H0 α H h xs us L) {d : D} {t : V} (r : DR K H d t) : Psts K B α0 H0 α H h [.d d] [t] [] := p.to (PR.d r).ones (List.nil_sublist _)
theorem PR.int_inv {i : Int} (r : PR K α H (.d (.int i)) u L) : u = .int i ∧ L = [] := by
  cases r with
  | d r => cases r; exact ⟨rfl, rfl⟩
theorem PR.str_inv {i : Str} (r : PR K α H (.d (.str i)) u L) : u = .str i ∧ L = [] := by
  cases r with
  | d r => cases r; exact ⟨rfl, rfl⟩
theorem PR.bl_inv {i : Bool} (r : PR K α H (.d (.bl i)) u L) : u = .bl i ∧ L = [] := by
  cases r with
  | d r => cases r; exact ⟨rfl, rfl⟩
theorem PR.dat_inv {d : D} (r : PR K α H (.d d) u L) : DR K H d u ∧ L = [] := by
  cases r with
  | d r => exact ⟨r, rfl⟩
theorem PRs.two {xs : List V} (r : PRs K α H [x, y] xs L) : ∃ u w L1 L2, xs = [u, w] ∧ L = L1 ++ L2 ∧ PR K α H x u L1 ∧ PR K α H y w L2 := by
  obtain ⟨u, us, M, N, rfl, rfl, r1, t⟩ := r.uncons
  obtain ⟨w, ws, M2, N2, rfl, rfl, r2, t2⟩ := t.uncons
  cases t2
  exact ⟨u, w, M, M2, rfl, by rw [List.append_nil], r1, r2⟩
theorem PRs.three {xs : List V} (r : PRs K α H [x, y, z] xs L) : ∃ u w t L1 L2 L3, xs = [u, w, t] ∧ L = L1 ++ (L2 ++ L3) ∧ PR K α H x u L1 ∧ PR K α H y w L2 ∧ PR K α H z t L3 := by
  obtain ⟨u, us, M, N, rfl, rfl, r1, t⟩ := r.uncons
  obtain ⟨w, t', L1, L2, rfl, rfl, r2, r3⟩ := t.two
  exact ⟨u, w, t', M, L1, L2, rfl, rfl, r1, r2, r3⟩
theorem DRs.append : ∀ {a b : List D} {us ws : List V}, DRs K H a us → DRs K H b ws → DRs K H (a ++ b) (us ++ ws)
  | [], _, _, _, h, t => by cases h; exact t
  | x :: xs, _, _, _, h, t => by cases h with | cons h r => exact .cons h (DRs.append r t)
theorem PR.tup_inv {ds : List D} (r : PR K α H (.d (.tup ds)) u L) : ∃ a vs, u = .ref a ∧ L = [] ∧ SqT K H a vs ∧ ds.length ≤ sizeLine ∧ DRs K H ds vs := by
  cases r with
  | d r => cases r with | tup h z r => exact ⟨_, _, rfl, rfl, h, z, r⟩
theorem tup_ok {xs : List PV} (e : tupOf v = some xs) (r : PR K α H v u L) : ∃ a vs, u = .ref a ∧ SqT K H a vs ∧ xs.length ≤ sizeLine ∧ PRs K α H xs vs L := by
  cases v with
  | d x =>
    cases x with
    | tup ds =>
      obtain ⟨a, vs, rfl, rfl, s, z, r⟩ := r.tup_inv
      cases e
      exact ⟨a, vs, rfl, s, by rw [List.length_map]; exact z, PRs.of_ds r⟩
    | non => cases e
    | bl _ => cases e
    | int _ => cases e
    | str _ => cases e
  | mt xs =>
    cases e
    cases r with
    | mt h z r => exact ⟨_, _, rfl, h, z, r⟩
  | tl _ => cases e
  | fl _ => cases e
  | ref _ => cases e
  | rg _ => cases e
  | fd _ => cases e
theorem mut_ok {xs : List PV} (g : Good K B α h H) (e : mutOf v h = some xs) (r : PR K α H v u L) : ∃ a vs M, u = .ref a ∧ H a = some (.lst vs) ∧ xs.length ≤ sizeLine ∧ PRs K α H xs vs M ∧ M.Sublist L := by
  cases v with
  | tl xs =>
    cases e
    cases r with
    | tl h z r => exact ⟨_, _, _, rfl, h, z, r, List.sublist_cons_self _ _⟩
  | ref n =>
    cases r with
    | ref q =>
      simp only [mutOf] at e
      cases q2 : h[n]? with
      | none => rw [q2] at e; cases e
      | some c =>
        cases c with
        | lst ys =>
          rw [q2] at e
          cases e
          obtain ⟨vs, e1, z, r⟩ := g.cell n xs _ q2 q
          exact ⟨_, vs, [], rfl, e1, z, r, List.nil_sublist _⟩
  | d _ => cases e
  | fl _ => cases e
  | mt _ => cases e
  | rg _ => cases e
  | fd _ => cases e
theorem lst_ok {xs : List PV} (g : Good K B α h H) (e : lstOf v h = some xs) (r : PR K α H v u L) : ∃ a vs M, u = .ref a ∧ SqL K H a vs ∧ xs.length ≤ sizeLine ∧ PRs K α H xs vs M ∧ M.Sublist L := by
  cases v with
  | tl xs =>
    cases e
    cases r with
    | tl h z r => exact ⟨_, _, _, rfl, .inl (.inl h), z, r, List.sublist_cons_self _ _⟩
  | fl ds =>
    cases e
    cases r with
    | fl h z r => exact ⟨_, _, [], rfl, h.sql, by rw [List.length_map]; exact z, PRs.of_ds r, List.nil_sublist _⟩
  | ref n =>
    have e' : mutOf (.ref n) h = some xs := e
    obtain ⟨a, vs, M, e1, e2, z, r, s⟩ := mut_ok g e' r
    exact ⟨a, vs, M, e1, .inl (.inl e2), z, r, s⟩
  | d _ => cases e
  | mt _ => cases e
  | rg _ => cases e
  | fd _ => cases e
theorem seq_ok {xs : List PV} (g : Good K B α h H) (e : seqOf v h = some xs) (r : PR K α H v u L) : ∃ a vs M, u = .ref a ∧ (SqL K H a vs ∨ SqT K H a vs) ∧ xs.length ≤ sizeLine ∧ PRs K α H xs vs M ∧ M.Sublist L := by
  unfold seqOf at e
  cases q : tupOf v with
  | some ys =>
    rw [q] at e
    cases e
    obtain ⟨a, vs, e1, s, z, r⟩ := tup_ok q r
    exact ⟨a, vs, L, e1, .inr s, z, r, List.Sublist.refl _⟩
  | none =>
    rw [q] at e
    obtain ⟨a, vs, M, e1, s, z, r, sb⟩ := lst_ok g e r
    exact ⟨a, vs, M, e1, .inl s, z, r, sb⟩
/-! ### as the model's data -/
mutual
theorem toPyG_ok {f : Nat → Option PyData} (hf : ∀ n a p, f n = some p → α[n]? = some a → Dp K H (.ref a) p) : ∀ (v : PV) (u : V) (L : List Addr) (p : PyData), PR K α H v u L → toPyG f v = some p → Dp K H u p
  | .d x, _, _, _, r, e => by cases e; cases r with | d r => exact DR.dp x _ r
  | .tl xs, _, _, _, r, e => by
    simp only [toPyG] at e
    cases q : toPysG f xs with
    | none => rw [q] at e; cases e
    | some ys =>
      rw [q] at e
      cases e
      cases r with
      | tl h z r => exact .lst (.inl (.inl h)) (toPysG_ok hf xs _ _ ys r q)
  | .fl ds, _, _, _, r, e => by
    cases e
    cases r with
    | fl h z r => exact .lst h.sql (DRs.dp ds _ r)
  | .mt xs, _, _, _, r, e => by
    simp only [toPyG] at e
    cases q : toPysG f xs with
    | none => rw [q] at e; cases e
    | some ys =>
      rw [q] at e
      cases e
      cases r with
      | mt h z r => exact .tup h (toPysG_ok hf xs _ _ ys r q)
  | .ref n, _, _, _, r, e => by cases r with | ref h => exact hf n _ _ e h
theorem toPysG_ok {f : Nat → Option PyData} (hf : ∀ n a p, f n = some p → α[n]? = some a → Dp K H (.ref a) p) : ∀ (xs : List PV) (us : List V) (L : List Addr) (ps : List PyData), PRs K α H xs us L → toPysG f xs = some ps → DpAll K H us ps
  | [], _, _, _, r, e => by cases e; cases r; exact .nil
  | x :: xs, _, _, _, r, e => by
    simp only [toPysG] at e
    cases q : toPyG f x with
    | none => rw [q] at e; cases e
    | some y =>
      cases q2 : toPysG f xs with
      | none => rw [q, q2] at e; cases e
      | some ys =>
        rw [q, q2] at e
        cases e
        cases r with
        | cons r t => exact .cons (toPyG_ok hf x _ _ y r q) (toPysG_ok hf xs _ _ ys t q2)
end
theorem pyR_ok (g : Good K B α h H) : ∀ (k n : Nat) (a : Addr) (p : PyData), pyR h k n = some p → α[n]? = some a → Dp K H (.ref a) p
  | 0, _, _, _, e, _ => by cases e
  | k + 1, n, a, p, e, ea => by
    simp only [pyR] at e
    cases q : h[n]? with
    | none => rw [q] at e; cases e
    | some c =>
      cases c with
      | lst xs =>
        rw [q] at e
        simp only at e
        cases q2 : toPysG (pyR h k) xs with
        | none => rw [q2] at e; cases e
        | some ys =>
          rw [q2] at e
          cases e
          obtain ⟨vs, e1, z, r⟩ := g.cell n xs a q ea
          exact .lst (.inl (.inl e1)) (toPysG_ok (fun n a p => pyR_ok g k n a p) xs vs [] ys r q2)
theorem toPy_ok {p : PyData} (g : Good K B α h H) (r : PR K α H v u L) (e : toPy h v = some p) : Dp K H u p := toPyG_ok (pyR_ok g 4) v u L p r e
end

/-! ### the operators -/
def BOp.op : BOp → Operator
  | .add => .Add | .sub => .Sub | .mul => .Mult | .fdiv => .FloorDiv | .mod => .Mod | .pow => .Pow | .shl => .LShift | .shr => .RShift | .band => .BitAnd | .bor => .BitOr | .bxor => .BitXor
def UOp.op : UOp → UnaryOp
  | .neg => .USub | .inv => .Invert
def COp.op : COp → CmpOp
  | .eq => .Eq | .ne => .NotEq | .lt => .Lt | .le => .LtE | .gt => .Gt | .ge => .GtE | .isN => .Is | .notN => .IsNot | .inn => .In | .nin => .NotIn
section
variable {X : Cx} {B : List Nat} {α0 α : List Addr} {H0 H : Hp} {h h' : Hs} {x y z v : PV} {u w vv : V} {L M : List Addr} {Q : VK}
/-- what is wanted behind a run -/
def Wnt (K : PySem.W.Frag) (B : List Nat) (α0 : List Addr) (H0 : Hp) (z : PV) (h : Hs) (Q : VK) : Prop := ∀ α H v L, Psts K B α0 H0 α H h [z] [v] L → Q v H
theorem mul64 {i j : Int} (e : mulOk i j = true) : CMul i j := by
  unfold mulOk at e
  rw [Bool.or_eq_true, decide_eq_true_eq, decide_eq_true_eq] at e
  unfold CMul
  omega
theorem DRs.rep {K : PySem.W.Frag} {H : Hp} {xs : List D} {vs : List V} (h : DRs K H xs vs) : ∀ n : Nat, DRs K H (List.replicate n xs).flatten (List.replicate n vs).flatten
  | 0 => .nil
  | n + 1 => by
    rw [List.replicate_succ, List.replicate_succ, List.flatten_cons, List.flatten_cons]
    exact h.append (h.rep n)
theorem repS_len (s : Str) (n : Nat) : (repS s n).length = s.length * n := by
  have key : ∀ (n : Nat) (acc : Array Nat), ((List.replicate n s.cps).foldl (· ++ ·) acc).size = acc.size + s.cps.size * n := by
    intro n
    induction n with
    | zero => intro acc; simp
    | succ n ih =>
      intro acc
      rw [List.replicate_succ, List.foldl_cons, ih, Array.size_append, Nat.mul_succ]
      omega
  show ((List.replicate n s.cps).foldl (· ++ ·) #[]).size = _
  rw [key]
  show 0 + s.cps.size * n = s.cps.size * n
  omega
theorem op_mulS {X : Cx} : OpR X (binaryOp .Mult) (fun x y H Q => ∃ (s : Str) (k : Int), x = .str s ∧ y = .int k ∧ 2 ≤ k ∧ k ≤ 1000000 ∧ 0 < s.length ∧ s.length * k.toNat ≤ 1000000 ∧ Q (.str (repS s k.toNat)) H) := by
  intro pins s σ H x y v u Q I rx ry h
  obtain ⟨a, k, rfl, rfl, h1, h2, h3, h4, q⟩ := h
  obtain ⟨t, rfl⟩ := rx
  obtain ⟨t2, rfl⟩ := ry
  have hz : PySem.sizeLine = 2 ^ 24 := rfl
  refine PySem.P.mul_str (by rw [decide_eq_false (by omega), decide_eq_false (by omega)]; rfl) (fun _ _ => ?_) (fun _ _ => ?_) ?_
  · have e1 : ((2 : Int) ^ 63 - 1) / 1000000 ≤ (2 ^ 63 - 1) / k := by
      refine Int.le_ediv_of_mul_le (by omega) ?_
      have : ((2 : Int) ^ 63 - 1) / 1000000 * k ≤ ((2 : Int) ^ 63 - 1) / 1000000 * 1000000 := Int.mul_le_mul_of_nonneg_left h2 (by decide)
      exact Int.le_trans this (by decide)
    have e2 : (a.length : Int) ≤ 1000000 := by
      have : a.length * 1 ≤ a.length * k.toNat := Nat.mul_le_mul_left _ (by omega)
      omega
    have e3 : (1000000 : Int) ≤ ((2 : Int) ^ 63 - 1) / 1000000 := by decide
    omega
  · exact decide_eq_false (by rw [hz]; omega)
  · rw [if_neg (by omega), if_neg (by
      rw [Bool.or_eq_true, beq_iff_eq, beq_iff_eq]
      omega)]
    exact ⟨by
      show (⟨_⟩ : Str).length ≤ _
      have := repS_len a k.toNat
      unfold repS at this
      rw [this, sizeLine_eq]
      omega, .str _, H, I.tok _, ⟨_, rfl⟩, q⟩
theorem bin_ok {o : BOp} (p : Psts X.K B α0 H0 α H h [x, y] [u, w] L) (e : binV o x y h = some (z, h')) (q : Wnt X.K B α0 H0 z h' Q) : OpS X (binaryOp o.op) u w H Q := by
  obtain ⟨_, _, L1, L2, e1, rfl, r1, r2⟩ := p.rel.two
  cases e1
  have din : ∀ i : Int, z = .d (.int i) → h' = h → Q (.int i) H := fun i ez eh => by
    subst ez eh
    exact q _ _ _ _ (p.dat (.int i))
  unfold binV at e
  split at e
  · obtain ⟨rfl, rfl⟩ := r1.int_inv
    obtain ⟨rfl, rfl⟩ := r2.int_inv
    cases e
    exact OpS.use op_add ⟨_, _, rfl, rfl, din _ rfl rfl⟩
  · obtain ⟨rfl, rfl⟩ := r1.int_inv
    obtain ⟨rfl, rfl⟩ := r2.int_inv
    cases e
    exact OpS.use op_sub ⟨_, _, rfl, rfl, din _ rfl rfl⟩
  · obtain ⟨rfl, rfl⟩ := r1.int_inv
    obtain ⟨rfl, rfl⟩ := r2.int_inv
    split at e
    · cases e
      rename_i hm
      exact OpS.use op_mul ⟨_, _, rfl, rfl, mul64 hm, din _ rfl rfl⟩
    · cases e
  · obtain ⟨rfl, rfl⟩ := r1.str_inv
    obtain ⟨rfl, rfl⟩ := r2.int_inv
    split at e
    · cases e
      rename_i hm
      exact OpS.use op_mulS ⟨_, _, rfl, rfl, hm.1, hm.2.1, hm.2.2.1, hm.2.2.2, q _ _ _ _ (p.dat (.str _))⟩
    · cases e
  · obtain ⟨rfl, rfl⟩ := r2.int_inv
    split at e
    · rename_i ds hd
      split at e
      · cases e
        rename_i hm
        have ed := allD_some hd
        subst ed
        cases r1 with
        | @tl a vs _ L' ha z1 t1 =>
          obtain ⟨rd, rfl⟩ := t1.to_ds
          have hl := rd.length
          rw [List.length_map] at hm
          refine OpS.use op_rep ⟨a, _, vs, rfl, rfl, ha, by omega, by omega, by rw [← hl, sizeLine_eq]; omega, fun c nc => q _ _ _ _ (p.newList nc (PRs.of_ds (rd.rep _)) (List.nil_sublist _) ?_)⟩
          rw [List.length_map, List.length_flatten, List.map_replicate, List.sum_replicate_nat, sizeLine_eq, Nat.mul_comm]
          omega
      · cases e
    · cases e
  · obtain ⟨rfl, rfl⟩ := r1.int_inv
    obtain ⟨rfl, rfl⟩ := r2.int_inv
    split at e
    · cases e
      rename_i hm
      exact OpS.use op_fdivN ⟨_, _, rfl, rfl, hm, din _ rfl rfl⟩
    · cases e
  · obtain ⟨rfl, rfl⟩ := r1.int_inv
    obtain ⟨rfl, rfl⟩ := r2.int_inv
    split at e
    · cases e
      rename_i hm
      exact OpS.use op_modN ⟨_, _, rfl, rfl, hm, din _ rfl rfl⟩
    · cases e
  · obtain ⟨rfl, rfl⟩ := r1.int_inv
    obtain ⟨rfl, rfl⟩ := r2.int_inv
    split at e
    · cases e
      rename_i hm
      exact OpS.use op_pow ⟨_, _, rfl, rfl, hm, din _ rfl rfl⟩
    · cases e
  · obtain ⟨rfl, rfl⟩ := r1.int_inv
    obtain ⟨rfl, rfl⟩ := r2.int_inv
    split at e
    · cases e
      rename_i hm
      exact OpS.use op_shl ⟨_, _, rfl, rfl, hm, din _ rfl rfl⟩
    · cases e
  · obtain ⟨rfl, rfl⟩ := r1.int_inv
    obtain ⟨rfl, rfl⟩ := r2.int_inv
    split at e
    · cases e
      rename_i hm
      exact OpS.use op_shr ⟨_, _, rfl, rfl, hm, din _ rfl rfl⟩
    · cases e
  · obtain ⟨rfl, rfl⟩ := r1.int_inv
    obtain ⟨rfl, rfl⟩ := r2.int_inv
    cases e
    exact OpS.use op_and ⟨_, _, rfl, rfl, din _ rfl rfl⟩
  · obtain ⟨rfl, rfl⟩ := r1.int_inv
    obtain ⟨rfl, rfl⟩ := r2.int_inv
    cases e
    exact OpS.use op_or ⟨_, _, rfl, rfl, din _ rfl rfl⟩
  · obtain ⟨rfl, rfl⟩ := r1.int_inv
    obtain ⟨rfl, rfl⟩ := r2.int_inv
    cases e
    exact OpS.use op_xor ⟨_, _, rfl, rfl, din _ rfl rfl⟩
  · obtain ⟨rfl, rfl⟩ := r1.str_inv
    obtain ⟨rfl, rfl⟩ := r2.str_inv
    split at e
    · cases e
      rename_i hm
      exact OpS.use op_add_str ⟨_, _, rfl, rfl, hm, q _ _ _ _ (p.dat (.str _))⟩
    · cases e
  · obtain ⟨a, us, rfl, rfl, s1, z1, d1⟩ := r1.tup_inv
    obtain ⟨b, ws, rfl, rfl, s2, z2, d2⟩ := r2.tup_inv
    split at e
    · cases e
      rename_i hm
      have l1 := d1.length
      have l2 := d2.length
      refine OpS.use op_catA ⟨a, b, us, ws, rfl, rfl, s1, s2, by omega, fun en => ?_, fun _ en => ?_, fun _ _ c nc => ?_⟩
      · subst en
        cases d1
        exact q _ _ _ _ (p.dat (.tup s2 z2 d2))
      · subst en
        cases d2
        rw [List.append_nil] at q
        exact q _ _ _ _ (p.dat (.tup s1 z1 d1))
      · have k := Kept.fresh (o := .tup (us ++ ws)) nc
        refine q _ _ _ _ ((p.fresh nc).dat (.tup (.inl (.inl upd_same)) (by rw [List.length_append]; omega) ((DRs.keep k _ _ d1).append (DRs.keep k _ _ d2))))
    · cases e
  · split at e
    · rename_i ys zs e1 e2
      split at e
      · cases e
        rename_i hm
        obtain ⟨a, us, M1, rfl, s1, z1, t1, b1⟩ := mut_ok p.good e1 r1
        obtain ⟨b, ws, M2, rfl, s2, z2, t2, b2⟩ := mut_ok p.good e2 r2
        have l1 := t1.length
        have l2 := t2.length
        refine OpS.use op_cat ⟨a, b, us, ws, rfl, rfl, s1, s2, by omega, fun c nc => ?_⟩
        exact q _ _ _ _ (p.newList nc (t1.append t2) (b1.append b2) (by rw [List.length_append]; omega))
      · cases e
    · cases e
  · cases e
theorem un_ok {o : UOp} (p : Psts X.K B α0 H0 α H h [x] [u] L) (e : unV o x h = some (z, h')) (q : Wnt X.K B α0 H0 z h' Q) : UnS X (unaryOp o.op) u H Q := by
  have r1 := p.one
  unfold unV at e
  split at e
  · obtain ⟨rfl, rfl⟩ := r1.int_inv
    cases e
    exact UnS.use un_neg ⟨_, rfl, q _ _ _ _ (p.dat (.int _))⟩
  · obtain ⟨rfl, rfl⟩ := r1.int_inv
    cases e
    exact UnS.use un_inv ⟨_, rfl, q _ _ _ _ (p.dat (.int _))⟩
  · cases e
end
end Pe
/-! Pe: comparisons, subscripts, slices, built-ins, methods, stores. -/
namespace Pe
open PySem PySem.Spec PyProof.Rows L2

section
variable {X : Cx} {B : List Nat} {α0 α : List Addr} {H0 H : Hp} {h h' : Hs} {x y z v : PV} {u w vv : V} {L M : List Addr} {Q : VK}
theorem eqPy_some {a b : PyData} {r : Bool} (e : eqPy a b = some r) : SeqAt.shaped a = true ∧ SeqAt.shaped b = true ∧ r = PyData.eqv a b := by
  unfold eqPy at e
  split at e
  · rename_i hs
    rw [Bool.and_eq_true] at hs
    cases e
    exact ⟨hs.1, hs.2, rfl⟩
  · cases e
theorem eqV_some {K : PySem.W.Frag} {r : Bool} (g : Good K B α h H) {L1 L2 : List Addr} (r1 : PR K α H x u L1) (r2 : PR K α H y w L2) (e : eqV x y h = some r) :
    ∃ d b, Dp K H u d ∧ Dp K H w b ∧ SeqAt.shaped d = true ∧ SeqAt.shaped b = true ∧ r = PyData.eqv d b := by
  unfold eqV at e
  split at e
  · rename_i a b e1 e2
    obtain ⟨s1, s2, e⟩ := eqPy_some e
    exact ⟨a, b, toPy_ok g r1 e1, toPy_ok g r2 e2, s1, s2, e⟩
  · cases e
theorem in_any (hu : X.A.units + 65 < cLine) {r : Bool} (g : Good X.K B α h H) {L1 L2 : List Addr} (r1 : PR X.K α H x u L1) (r2 : PR X.K α H y w L2) (e : inV x y h = some r) :
    (Q (.bl r) H → OpS X (compareOp .In) u w H Q) ∧ (Q (.bl (!r)) H → OpS X (compareOp .NotIn) u w H Q) := by
  unfold inV at e
  split at e
  · rename_i a ds e1 e2
    split at e
    · rename_i hs
      rw [Bool.and_eq_true] at hs
      cases e
      have d1 := toPy_ok g r1 e1
      have d2 := toPy_ok g r2 e2
      exact ⟨fun q => OpS.use (op_inD hu) ⟨a, ds, d1, d2, hs.1, hs.2, q⟩, fun q => OpS.use (op_notInD hu) ⟨a, ds, d1, d2, hs.1, hs.2, q⟩⟩
    · cases e
  · rename_i a ds e1 e2
    split at e
    · rename_i hs
      rw [Bool.and_eq_true] at hs
      cases e
      have d1 := toPy_ok g r1 e1
      have d2 := toPy_ok g r2 e2
      have hl : SeqAt.shaped (.list ds) = true := hs.2
      refine ⟨fun q pins s σ v t I rv rt => ?_, fun q pins s σ v t I rv rt => ?_⟩
      · obtain ⟨as, c1⟩ := Dp.reads I a _ v d1 rv
        obtain ⟨bs, c2⟩ := Dp.reads I (.tuple ds) _ t d2 rt
        exact SeqAt.in_tuple_reads c2 c1 (SeqAt.canLay_of_shaped hl) (SeqAt.canLay_of_shaped hs.1) (room_in_shaped hs.1 hu) ⟨.bl _, H, I, rfl, q⟩
      · obtain ⟨as, c1⟩ := Dp.reads I a _ v d1 rv
        obtain ⟨bs, c2⟩ := Dp.reads I (.tuple ds) _ t d2 rt
        exact SeqAt.notIn_tuple_reads c2 c1 (SeqAt.canLay_of_shaped hl) (SeqAt.canLay_of_shaped hs.1) (room_in_shaped hs.1 hu) ⟨.bl _, H, I, rfl, q⟩
    · cases e
  · cases e
theorem cmpI_some {p : Int → Int → Bool} {r : Bool} (e : cmpI p x y = some r) : ∃ i j, x = .d (.int i) ∧ y = .d (.int j) ∧ r = p i j := by
  unfold cmpI at e
  split at e
  · cases e; exact ⟨_, _, rfl, rfl, rfl⟩
  · cases e
theorem map_some' {α β : Type} {o : Option α} {f : α → β} {b : β} (e : o.map f = some b) : ∃ a, o = some a ∧ f a = b := by
  cases o with
  | none => cases e
  | some a => cases e; exact ⟨a, rfl, rfl⟩
theorem PR.non_iff {K : PySem.W.Frag} (r : PR K α H x u L) (n : x ≠ .d .non) : u ≠ .non := fun e => by
  subst e
  cases r with
  | d r => cases r; exact n rfl
theorem FDs.val {K : PySem.W.Frag} {k : Key} : ∀ {es : List (Sum Int Str × D)} {kvs : List (Key × V)}, FDs K H es kvs → hasK es k = (valV kvs k).isSome
  | _, _, .nil => rfl
  | _, _, .cons (k := k') h t => by
    have ih := FDs.val (k := k) t
    unfold hasK at ih ⊢
    rw [List.any_cons, ih]
    by_cases e : k' = k
    · rw [valV_pos e, decide_eq_true e]
      rfl
    · rw [valV_neg e, decide_eq_false e, Bool.false_or]
theorem keyD_rel {K : PySem.W.Frag} {x : D} {k : Sum Int Str} {L1 : List Addr} (e : keyD x = some k) (r : PR K α H (.d x) u L1) : u = kV k := by
  cases x with
  | int i => cases e; obtain ⟨rfl, _⟩ := r.int_inv; rfl
  | str s => cases e; obtain ⟨rfl, _⟩ := r.str_inv; rfl
  | non => cases e
  | bl _ => cases e
  | tup _ => cases e
theorem FDs.keys {K : PySem.W.Frag} : ∀ {es : List (Sum Int Str × D)} {kvs : List (Key × V)}, FDs K H es kvs → PRs K α H (es.map fun p => PV.d (dKey p.1)) (kvs.map fun kv => kV kv.1) []
  | _, _, .nil => .nil
  | _, _, .cons (k := k) h t => by
    have one : PR K α H (.d (dKey k)) (kV k) [] := by
      cases k with
      | inl i => exact .d (.int i)
      | inr s => exact .d (.str s)
    exact .cons (L := []) one (FDs.keys t)
theorem inW_any (hu : X.A.units + 65 < cLine) {r : Bool} (g : Good X.K B α h H) {L1 L2 : List Addr} (r1 : PR X.K α H x u L1) (r2 : PR X.K α H y w L2) (e : inW x y h = some r) :
    (Q (.bl r) H → OpS X (compareOp .In) u w H Q) ∧ (Q (.bl (!r)) H → OpS X (compareOp .NotIn) u w H Q) := by
  unfold inW at e
  split at e
  · rename_i es
    split at e
    · rename_i x
      obtain ⟨k, e1, e2⟩ := map_some' e
      have hu1 : X.A.units + 1 < cLine := by omega
      have ek := keyD_rel e1 r1
      cases r2 with
      | @fd _ a kvs o ha rr =>
        have g : DGet H a u (valV kvs k) := .inl ⟨kvs, k, .inr ⟨o, ha⟩, ek, rfl⟩
        have er : r = (valV kvs k).isSome := by rw [← e2]; exact rr.val
        refine ⟨fun q pins s σ v t I rv rt => ?_, fun q pins s σ v t I rv rt => ?_⟩
        · cases rt
          exact d_in hu1 I g rv fun s' I' => ⟨.bl _, H, I', rfl, by rw [← er]; exact q⟩
        · cases rt
          exact d_notIn hu1 I g rv fun s' I' => ⟨.bl _, H, I', rfl, by rw [← er]; exact q⟩
    · cases e
  · exact in_any hu g r1 r2 e
theorem cmp_ok {o : COp} {b : Bool} (hu : X.A.units + 65 < cLine) (p : Psts X.K B α0 H0 α H h [x, y] [u, w] L) (e : cmpV o x y h = some (b, h')) (q : Q (.bl b) H) : OpS X (compareOp o.op) u w H Q := by
  obtain ⟨_, _, L1, L2, e1, rfl, r1, r2⟩ := p.rel.two
  cases e1
  have fin : h' = h → Q (.bl b) H := fun _ => q
  have hu' : X.A.units + 64 < cLine := Nat.lt_of_succ_lt hu
  cases o with
  | eq =>
    obtain ⟨r, e2, e3⟩ := map_some' e
    cases e3
    obtain ⟨d, c, h1, h2, s1, s2, rfl⟩ := eqV_some p.good r1 r2 e2
    exact OpS.use (op_eqD hu') ⟨d, c, h1, h2, s1, s2, fin rfl⟩
  | ne =>
    obtain ⟨r, e2, e3⟩ := map_some' e
    cases e3
    obtain ⟨d, c, h1, h2, s1, s2, rfl⟩ := eqV_some p.good r1 r2 e2
    exact OpS.use (op_neD hu') ⟨d, c, h1, h2, s1, s2, fin rfl⟩
  | lt =>
    obtain ⟨r, e2, e3⟩ := map_some' e
    cases e3
    obtain ⟨i, j, rfl, rfl, rfl⟩ := cmpI_some e2
    obtain ⟨rfl, rfl⟩ := r1.int_inv
    obtain ⟨rfl, rfl⟩ := r2.int_inv
    exact OpS.use op_lt ⟨i, j, rfl, rfl, fin rfl⟩
  | le =>
    obtain ⟨r, e2, e3⟩ := map_some' e
    cases e3
    obtain ⟨i, j, rfl, rfl, rfl⟩ := cmpI_some e2
    obtain ⟨rfl, rfl⟩ := r1.int_inv
    obtain ⟨rfl, rfl⟩ := r2.int_inv
    exact OpS.use op_le ⟨i, j, rfl, rfl, fin rfl⟩
  | gt =>
    obtain ⟨r, e2, e3⟩ := map_some' e
    cases e3
    obtain ⟨i, j, rfl, rfl, rfl⟩ := cmpI_some e2
    obtain ⟨rfl, rfl⟩ := r1.int_inv
    obtain ⟨rfl, rfl⟩ := r2.int_inv
    exact OpS.use op_gt ⟨i, j, rfl, rfl, fin rfl⟩
  | ge =>
    obtain ⟨r, e2, e3⟩ := map_some' e
    cases e3
    obtain ⟨i, j, rfl, rfl, rfl⟩ := cmpI_some e2
    obtain ⟨rfl, rfl⟩ := r1.int_inv
    obtain ⟨rfl, rfl⟩ := r2.int_inv
    exact OpS.use op_ge ⟨i, j, rfl, rfl, fin rfl⟩
  | isN =>
    simp only [cmpV] at e
    split at e
    · cases e
      obtain ⟨d1, rfl⟩ := r1.dat_inv
      obtain ⟨d2, rfl⟩ := r2.dat_inv
      cases d1
      cases d2
      exact OpS.use op_isN ⟨rfl, fin rfl⟩
    · rename_i hn
      cases e
      obtain ⟨d2, rfl⟩ := r2.dat_inv
      cases d2
      have ne := r1.non_iff fun z => hn z
      exact OpS.use op_isN ⟨rfl, by rw [decide_eq_false ne]; exact fin rfl⟩
    · cases e
      obtain ⟨d1, rfl⟩ := r1.dat_inv
      obtain ⟨d2, rfl⟩ := r2.dat_inv
      cases d1
      cases d2
      exact OpS.use op_isBl ⟨_, _, rfl, rfl, fin rfl⟩
    · cases e
  | notN =>
    simp only [cmpV] at e
    split at e
    · cases e
      obtain ⟨d1, rfl⟩ := r1.dat_inv
      obtain ⟨d2, rfl⟩ := r2.dat_inv
      cases d1
      cases d2
      exact OpS.use op_notN ⟨rfl, fin rfl⟩
    · rename_i hn
      cases e
      obtain ⟨d2, rfl⟩ := r2.dat_inv
      cases d2
      have ne := r1.non_iff fun z => hn z
      exact OpS.use op_notN ⟨rfl, by rw [decide_eq_false ne]; exact fin rfl⟩
    · cases e
      obtain ⟨d1, rfl⟩ := r1.dat_inv
      obtain ⟨d2, rfl⟩ := r2.dat_inv
      cases d1
      cases d2
      exact OpS.use op_notBl ⟨_, _, rfl, rfl, fin rfl⟩
    · cases e
  | inn =>
    obtain ⟨r, e2, e3⟩ := map_some' e
    cases e3
    exact (inW_any hu p.good r1 r2 e2).1 (fin rfl)
  | nin =>
    obtain ⟨r, e2, e3⟩ := map_some' e
    cases e3
    exact (inW_any hu p.good r1 r2 e2).2 (fin rfl)

theorem cmpV_same {o : COp} {b : Bool} (e : cmpV o x y h = some (b, h')) : h' = h := by
  cases o <;> simp only [cmpV] at e
  case isN => split at e <;> first | (cases e; rfl) | cases e
  case notN => split at e <;> first | (cases e; rfl) | cases e
  all_goals
    obtain ⟨r, _, e3⟩ := map_some' e
    cases e3
    rfl

/-! ### subscripts -/
theorem atI_rel {K : PySem.W.Frag} {xs : List PV} {us : List V} {k : Int} (r : PRs K α H xs us L) (e : atI xs k = some z) : ∃ w M, atI us k = some w ∧ PR K α H z w M ∧ M.Sublist L := by
  unfold atI at e ⊢
  rw [r.length] at e
  cases q : ixN us.length k with
  | none => rw [q] at e; cases e
  | some j =>
    rw [q] at e
    exact PRs.get r e
theorem idx_ok (p : Psts X.K B α0 H0 α H h [x, y] [u, w] L) (e : idxV x y h = some (z, h')) (q : Wnt X.K B α0 H0 z h' Q) : rIx X.K u w H Q := by
  obtain ⟨_, _, L1, L2, e1, rfl, r1, r2⟩ := p.rel.two
  cases e1
  unfold idxV at e
  split at e
  · obtain ⟨rfl, rfl⟩ := r2.int_inv
    split at e
    · obtain ⟨rfl, rfl⟩ := r1.str_inv
      split at e
      · rename_i hz
        obtain ⟨c, e2, e3⟩ := map_some' e
        cases e3
        exact .inr (.inr ⟨_, _, c, rfl, rfl, hz, e2, q _ _ _ _ (p.dat (.str _))⟩)
      · cases e
    · split at e
      · rename_i xs e2
        obtain ⟨c, e3, e4⟩ := map_some' e
        cases e4
        obtain ⟨a, vs, M, rfl, s, z1, t, b⟩ := seq_ok p.good e2 r1
        obtain ⟨w, N, e5, rz, sb⟩ := atI_rel t e3
        have fin := q _ _ _ _ (p.to rz.ones ((sb.trans b).trans (List.sublist_append_left _ _)))
        rcases s with s | s
        · exact .inl ⟨a, vs, _, w, rfl, rfl, s, e5, fin⟩
        · exact .inr (.inl ⟨a, vs, _, w, rfl, rfl, s, e5, fin⟩)
      · cases e
  · cases e
theorem cutL_length {α : Type} (xs : List α) (lo hi : Option Int) : (cutL xs lo hi).length ≤ xs.length := by
  unfold cutL
  rw [List.length_take, List.length_drop]
  omega
theorem cutL_rel {K : PySem.W.Frag} {xs : List PV} {us : List V} {lo hi : Option Int} (r : PRs K α H xs us L) : ∃ M, PRs K α H (cutL xs lo hi) (cutV us lo hi) M ∧ M.Sublist L := by
  unfold cutL cutV
  rw [r.length]
  obtain ⟨M, r1, s1⟩ := r.drop (HT.sIx us.length 0 lo)
  obtain ⟨N, r2, s2⟩ := r1.take (HT.sIx us.length us.length hi - HT.sIx us.length 0 lo)
  exact ⟨N, r2, s2.trans s1⟩
theorem DRs.drop {K : PySem.W.Frag} : ∀ {xs : List D} {us : List V} (n : Nat), DRs K H xs us → DRs K H (xs.drop n) (us.drop n)
  | _, _, 0, h => h
  | [], _, n + 1, h => by cases h; exact .nil
  | x :: xs, _, n + 1, h => by cases h with | cons h t => exact DRs.drop n t
theorem DRs.take {K : PySem.W.Frag} : ∀ {xs : List D} {us : List V} (n : Nat), DRs K H xs us → DRs K H (xs.take n) (us.take n)
  | _, _, 0, h => .nil
  | [], _, n + 1, h => by cases h; exact .nil
  | x :: xs, _, n + 1, h => by cases h with | cons h t => exact .cons h (DRs.take n t)
theorem cutD_rel {K : PySem.W.Frag} {xs : List D} {us : List V} {lo hi : Option Int} (r : DRs K H xs us) : DRs K H (cutL xs lo hi) (cutV us lo hi) := by
  unfold cutL cutV
  rw [r.length]
  exact (r.drop _).take _
theorem cutL_whole {α : Type} {xs : List α} {lo hi : Option Int} (h : HT.sIx xs.length 0 lo = 0 ∧ HT.sIx xs.length xs.length hi = xs.length) : cutL xs lo hi = xs := by
  unfold cutL
  rw [h.1, h.2]
  simp
def rSlX (K : PySem.W.Frag) : V → Option Int → Option Int → Hp → VK → Prop := fun x lo hi H Q => rSlL K x lo hi H Q ∨ rSlA K x lo hi H Q
theorem sl_any : SlR X (rSlX X.K) := by
  intro pins s σ H x v vl vu lo hi sl Q I rx hs pl pu h
  rcases h with h | h
  · exact sl_list pins s σ H x v vl vu lo hi sl Q I rx hs pl pu h
  · exact sl_tupA pins s σ H x v vl vu lo hi sl Q I rx hs pl pu h
theorem slice_ok {lo hi : Option Int} (p : Psts X.K B α0 H0 α H h [x] [u] L) (e : sliceV x lo hi h = some (z, h')) (q : Wnt X.K B α0 H0 z h' Q) : rSlX X.K u lo hi H Q := by
  have r1 := p.one
  unfold sliceV at e
  split at e
  · cases e
    obtain ⟨a, vs, rfl, rfl, s, z1, r⟩ := r1.tup_inv
    have hl := r.length
    refine .inr ⟨a, vs, rfl, s, fun hw => ?_, fun _ c nc => ?_⟩
    · rw [cutL_whole (by rw [hl]; exact hw)] at q
      exact q _ _ _ _ (p.dat (.tup s z1 r))
    · have k := Kept.fresh (o := .tup (cutV vs lo hi)) nc
      exact q _ _ _ _ ((p.fresh nc).dat (.tup (.inl (.inl upd_same)) (Nat.le_trans (cutL_length _ _ _) z1) (DRs.keep k _ _ (cutD_rel r))))
  · split at e
    · rename_i xs e2
      cases e
      obtain ⟨a, vs, M, rfl, s, z1, t, b⟩ := lst_ok p.good e2 r1
      obtain ⟨N, r2, sb⟩ := cutL_rel (lo := lo) (hi := hi) t
      exact .inl ⟨a, vs, rfl, s, fun c nc => q _ _ _ _ (p.newList nc r2 (sb.trans b) (Nat.le_trans (cutL_length _ _ _) z1))⟩
    · cases e

/-! ### built-ins -/
theorem mkTup_rel {K : PySem.W.Frag} {a : Addr} {xs : List PV} {us : List V} (s : SqT K H a us) (z : xs.length ≤ sizeLine) (r : PRs K α H xs us L) : PR K α H (mkTup xs) (.ref a) L := by
  unfold mkTup
  cases q : allD xs with
  | none => exact .mt s z r
  | some ds =>
    have e := allD_some q
    subst e
    obtain ⟨rd, rfl⟩ := r.to_ds
    exact .d (.tup s (by rw [List.length_map] at z; exact z) rd)
theorem bools_rel {K : PySem.W.Frag} : ∀ {xs : List PV} {us : List V} {L : List Addr} {bs : List Bool}, PRs K α H xs us L → boolsOf xs = some bs → us = bs.map V.bl
  | [], _, _, _, r, e => by cases e; cases r; rfl
  | x :: xs, _, _, _, r, e => by
    obtain ⟨v, ws, M, N, rfl, rfl, r1, t⟩ := r.uncons
    unfold boolsOf at e
    split at e
    · rename_i heq
      cases heq
    · rename_i b r' heq
      cases heq
      split at e
      · rename_i bs' e2
        cases e
        obtain ⟨rfl, _⟩ := r1.bl_inv
        rw [bools_rel t e2]
        rfl
      · cases e
    · cases e
theorem ints_rel {K : PySem.W.Frag} : ∀ {xs : List PV} {us : List V} {L : List Addr} {bs : List Int}, PRs K α H xs us L → intsOf xs = some bs → us = bs.map V.int
  | [], _, _, _, r, e => by cases e; cases r; rfl
  | x :: xs, _, _, _, r, e => by
    obtain ⟨v, ws, M, N, rfl, rfl, r1, t⟩ := r.uncons
    unfold intsOf at e
    split at e
    · rename_i heq
      cases heq
    · rename_i b r' heq
      cases heq
      split at e
      · rename_i bs' e2
        cases e
        obtain ⟨rfl, _⟩ := r1.int_inv
        rw [ints_rel t e2]
        rfl
      · cases e
    · cases e
/-- the built-ins by name -/
def Blt.val : Blt → Value
  | .len => .builtin "len" | .tuple => .type "tuple" | .list => .type "list" | .all => .builtin "all" | .any => .builtin "any" | .sum => .builtin "sum" | .int => .type "int" | .abs => .builtin "abs" | .max => .builtin "max" | .min => .builtin "min" | .sorted => .builtin "sorted" | .isi _ => .builtin "isinstance"
theorem maxI_spec : ∀ (n : Int) (ns : List Int), maxI n ns ∈ n :: ns ∧ ∀ y ∈ n :: ns, y ≤ maxI n ns
  | n, [] => ⟨List.mem_cons_self, fun y hy => by rw [List.mem_singleton.mp hy]; exact Int.le_refl _⟩
  | n, x :: ns => by
    have e : maxI n (x :: ns) = maxI (if n < x then x else n) ns := rfl
    obtain ⟨h1, h2⟩ := maxI_spec (if n < x then x else n) ns
    rw [e]
    have h3 := h2 _ List.mem_cons_self
    generalize maxI (if n < x then x else n) ns = m at h1 h2 h3 ⊢
    refine ⟨?_, fun y hy => ?_⟩
    · rcases List.mem_cons.mp h1 with q | q
      · rw [q]
        split
        · exact List.mem_cons_of_mem _ List.mem_cons_self
        · exact List.mem_cons_self
      · exact List.mem_cons_of_mem _ (List.mem_cons_of_mem _ q)
    · rcases List.mem_cons.mp hy with rfl | hy
      · split at h3 <;> omega
      · rcases List.mem_cons.mp hy with rfl | hy
        · split at h3 <;> omega
        · exact h2 y (List.mem_cons_of_mem _ hy)
theorem minI_spec : ∀ (n : Int) (ns : List Int), minI n ns ∈ n :: ns ∧ ∀ y ∈ n :: ns, minI n ns ≤ y
  | n, [] => ⟨List.mem_cons_self, fun y hy => by rw [List.mem_singleton.mp hy]; exact Int.le_refl _⟩
  | n, x :: ns => by
    have e : minI n (x :: ns) = minI (if x < n then x else n) ns := rfl
    obtain ⟨h1, h2⟩ := minI_spec (if x < n then x else n) ns
    rw [e]
    have h3 := h2 _ List.mem_cons_self
    generalize minI (if x < n then x else n) ns = m at h1 h2 h3 ⊢
    refine ⟨?_, fun y hy => ?_⟩
    · rcases List.mem_cons.mp h1 with q | q
      · rw [q]
        split
        · exact List.mem_cons_of_mem _ List.mem_cons_self
        · exact List.mem_cons_self
      · exact List.mem_cons_of_mem _ (List.mem_cons_of_mem _ q)
    · rcases List.mem_cons.mp hy with rfl | hy
      · split at h3 <;> omega
      · rcases List.mem_cons.mp hy with rfl | hy
        · split at h3 <;> omega
        · exact h2 y (List.mem_cons_of_mem _ hy)
theorem sortI_perm (ns : List Int) : (sortI ns).Perm ns := List.mergeSort_perm _ _
theorem sortI_sorted (ns : List Int) : (sortI ns).Pairwise (· ≤ ·) := by
  have := List.pairwise_mergeSort (le := fun a b : Int => decide (a ≤ b)) (fun a b c h1 h2 => by
    rw [decide_eq_true_eq] at *
    omega) (fun a b => by
    rw [Bool.or_eq_true, decide_eq_true_eq, decide_eq_true_eq]
    omega) ns
  exact this.imp fun h => of_decide_eq_true h
theorem drs_ints {K : PySem.W.Frag} {H : Hp} : ∀ ns : List Int, DRs K H (ns.map D.int) (ns.map V.int)
  | [] => .nil
  | n :: ns => .cons (.int n) (drs_ints ns)
theorem blt_ok {b : Blt} {xs : List PV} {us : List V} (hc : X.calm = true) (ni : ∀ ts, b ≠ .isi ts) (p : Psts X.K B α0 H0 α H h xs us L) (e : bltV b xs h = some (z, h')) (q : Wnt X.K B α0 H0 z h' Q) : CallS X b.val us H Q := by
  unfold bltV at e
  split at e
  · -- len of a text
    split at e
    · rename_i hz
      cases e
      obtain ⟨_, _, M, N, rfl, rfl, r1, t⟩ := p.rel.uncons
      cases t
      obtain ⟨rfl, rfl⟩ := r1.str_inv
      exact CallS.use call_len_str ⟨_, rfl, hz, q _ _ _ _ (p.dat (.int _))⟩
    · cases e
  · split at e
    · rename_i ys e2
      cases e
      obtain ⟨_, _, M, N, rfl, rfl, r1, t⟩ := p.rel.uncons
      cases t
      obtain ⟨a, vs, M2, rfl, s, z1, t, b⟩ := seq_ok p.good e2 r1
      have hl := t.length
      refine CallS.use call_len_seq ⟨a, vs, rfl, s, ?_⟩
      rw [← hl]
      exact q _ _ _ _ (p.dat (.int _))
    · cases e
  · split at e
    · rename_i ys e2
      cases e
      obtain ⟨_, _, M, N, rfl, rfl, r1, t⟩ := p.rel.uncons
      cases t
      obtain ⟨a, vs, M2, rfl, s, z1, t, b⟩ := seq_ok p.good e2 r1
      have sb := b.trans (List.sublist_append_left M [])
      refine CallS.use call_tuple_of ⟨a, vs, rfl, ?_⟩
      rcases s with s | s
      · refine .inl ⟨s, fun c nc => ?_⟩
        have k := Kept.fresh (o := .tup vs) nc
        have p1 := (p.to t sb).fresh (o := .tup vs) nc
        exact q _ _ _ _ (p1.to (mkTup_rel (.inl (.inl upd_same)) z1 p1.rel).ones (List.Sublist.refl _))
      · exact .inr ⟨s, q _ _ _ _ (p.to (mkTup_rel s z1 t).ones sb)⟩
    · cases e
  · split at e
    · rename_i hz
      cases e
      obtain ⟨_, _, M, N, rfl, rfl, r1, t⟩ := p.rel.uncons
      cases t
      cases r1 with
      | @fd es a kvs o ha rr =>
        refine CallS.use (call_listD hc) ⟨a, kvs, rfl, .inr ⟨o, ha⟩, fun c nc => ?_⟩
        exact q _ _ _ _ (p.newList nc rr.keys (List.nil_sublist _) (by rw [List.length_map]; exact hz))
    · cases e
  · split at e
    · rename_i ys e2
      cases e
      obtain ⟨_, _, M, N, rfl, rfl, r1, t⟩ := p.rel.uncons
      cases t
      obtain ⟨a, vs, M2, rfl, s, z1, t, b⟩ := seq_ok p.good e2 r1
      exact CallS.use call_list_of ⟨a, vs, rfl, s, fun c nc => q _ _ _ _ (p.newList nc t (b.trans (List.sublist_append_left M [])) z1)⟩
    · cases e
  · split at e
    · rename_i ys e2
      obtain ⟨bs, e3, e4⟩ := map_some' e
      cases e4
      obtain ⟨_, _, M, N, rfl, rfl, r1, t⟩ := p.rel.uncons
      cases t
      obtain ⟨a, vs, M2, rfl, s, z1, t, b⟩ := lst_ok p.good e2 r1
      have ev := bools_rel t e3
      subst ev
      exact CallS.use (cr_all hc) ⟨a, bs, rfl, s, q _ _ _ _ (p.dat (.bl _))⟩
    · cases e
  · split at e
    · rename_i ys e2
      obtain ⟨bs, e3, e4⟩ := map_some' e
      cases e4
      obtain ⟨_, _, M, N, rfl, rfl, r1, t⟩ := p.rel.uncons
      cases t
      obtain ⟨a, vs, M2, rfl, s, z1, t, b⟩ := lst_ok p.good e2 r1
      have ev := bools_rel t e3
      subst ev
      exact CallS.use (cr_any hc) ⟨a, bs, rfl, s, q _ _ _ _ (p.dat (.bl _))⟩
    · cases e
  · split at e
    · rename_i ys e2
      obtain ⟨bs, e3, e4⟩ := map_some' e
      cases e4
      obtain ⟨_, _, M, N, rfl, rfl, r1, t⟩ := p.rel.uncons
      cases t
      obtain ⟨a, vs, M2, rfl, s, z1, t, b⟩ := lst_ok p.good e2 r1
      have ev := ints_rel t e3
      subst ev
      exact CallS.use (cr_sum hc) ⟨a, bs, rfl, s, q _ _ _ _ (p.dat (.int _))⟩
    · cases e
  · cases e
    obtain ⟨_, _, M, N, rfl, rfl, r1, t⟩ := p.rel.uncons
    cases t
    obtain ⟨rfl, rfl⟩ := r1.int_inv
    exact CallS.use call_int1 (.inl ⟨_, rfl, q _ _ _ _ (p.dat (.int _))⟩)
  · cases e
    obtain ⟨_, _, M, N, rfl, rfl, r1, t⟩ := p.rel.uncons
    cases t
    obtain ⟨rfl, rfl⟩ := r1.bl_inv
    exact CallS.use call_int1 (.inr ⟨_, rfl, q _ _ _ _ (p.dat (.int _))⟩)
  · cases e
    obtain ⟨_, _, M, N, rfl, rfl, r1, t⟩ := p.rel.uncons
    cases t
    obtain ⟨rfl, rfl⟩ := r1.int_inv
    exact CallS.use call_abs ⟨_, rfl, q _ _ _ _ (p.dat (.int _))⟩
  · cases e
    obtain ⟨_, _, M, N, rfl, rfl, r1, r2⟩ := p.rel.two
    obtain ⟨rfl, rfl⟩ := r1.int_inv
    obtain ⟨rfl, rfl⟩ := r2.int_inv
    exact CallS.use (call_max2 hc) ⟨_, _, rfl, q _ _ _ _ (p.dat (.int _))⟩
  · split at e
    · rename_i ys e2
      split at e
      · rename_i n ns e3
        cases e
        obtain ⟨_, _, M, N, rfl, rfl, r1, t⟩ := p.rel.uncons
        cases t
        obtain ⟨a, vs, M2, rfl, s, z1, t, b⟩ := lst_ok p.good e2 r1
        have ev := ints_rel t e3
        subst ev
        refine CallS.use (cr_max hc) ⟨a, n :: ns, rfl, s, by simp, fun m h1 h2 => ?_⟩
        have : m = maxI n ns := Int.le_antisymm ((maxI_spec n ns).2 m h1) (h2 _ (maxI_spec n ns).1)
        rw [this]
        exact q _ _ _ _ (p.dat (.int _))
      · cases e
    · cases e
  · cases e
    obtain ⟨_, _, M, N, rfl, rfl, r1, r2⟩ := p.rel.two
    obtain ⟨rfl, rfl⟩ := r1.int_inv
    obtain ⟨rfl, rfl⟩ := r2.int_inv
    exact CallS.use (call_min2 hc) ⟨_, _, rfl, q _ _ _ _ (p.dat (.int _))⟩
  · split at e
    · rename_i ys e2
      split at e
      · rename_i n ns e3
        cases e
        obtain ⟨_, _, M, N, rfl, rfl, r1, t⟩ := p.rel.uncons
        cases t
        obtain ⟨a, vs, M2, rfl, s, z1, t, b⟩ := lst_ok p.good e2 r1
        have ev := ints_rel t e3
        subst ev
        refine CallS.use (cr_min hc) ⟨a, n :: ns, rfl, s, by simp, fun m h1 h2 => ?_⟩
        have : m = minI n ns := Int.le_antisymm (h2 _ (minI_spec n ns).1) ((minI_spec n ns).2 m h1)
        rw [this]
        exact q _ _ _ _ (p.dat (.int _))
      · cases e
    · cases e
  · split at e
    · rename_i ys e2
      obtain ⟨ns, e3, e4⟩ := map_some' e
      cases e4
      obtain ⟨_, _, M, N, rfl, rfl, r1, t⟩ := p.rel.uncons
      cases t
      obtain ⟨a, vs, M2, rfl, s, z1, t, b⟩ := lst_ok p.good e2 r1
      have hl := t.length
      have ev := ints_rel t e3
      subst ev
      refine CallS.use cr_sortedI ⟨a, ns, rfl, s, fun ns' c h1 h2 nc => ?_⟩
      have : ns' = sortI ns := List.Perm.eq_of_pairwise (le := fun a b : Int => a ≤ b) (fun a b _ _ h1 h2 => Int.le_antisymm h1 h2) h2 (sortI_sorted ns) (h1.trans (sortI_perm ns).symm)
      subst this
      have eq2 : (sortI ns).map (fun i => PV.d (.int i)) = ((sortI ns).map D.int).map PV.d := by rw [List.map_map]; rfl
      rw [eq2] at q
      refine q _ _ _ _ (p.newList nc (PRs.of_ds (drs_ints _)) (List.nil_sublist _) ?_)
      rw [List.length_map, List.length_map, (sortI_perm ns).length_eq]
      rw [List.length_map] at hl
      omega
    · cases e
  · exact absurd rfl (ni _)
  · cases e

/-! ### isinstance -/
def Ty.nm : Ty → String
  | .int => "int" | .bool => "bool" | .str => "str" | .tuple => "tuple" | .list => "list"
def tyNm : PV → String
  | .d .non => "NoneType" | .d (.bl _) => "bool" | .d (.int _) => "int" | .d (.str _) => "str" | .d (.tup _) => "tuple"
  | .fd _ => "dict" | .rg _ => "range" | .mt _ => "tuple" | .tl _ => "list" | .fl _ => "list" | .ref _ => "list"
theorem kit_tab (x : PV) (nr : isRg x = false) (t : Ty) : kitB (tyNm x) t.nm = some (tyIs h x t) := by
  have e : ∀ (a : String) (t : Ty), a ∈ ["NoneType", "bool", "int", "str", "tuple", "list"] → kitB a t.nm = some (a == t.nm || (a == "bool" && t.nm == "int")) := by
    intro a t ha
    simp only [List.mem_cons, List.not_mem_nil, or_false] at ha
    rcases ha with rfl | rfl | rfl | rfl | rfl | rfl <;> cases t <;> decide +kernel
  cases x with
  | d x => cases x <;> rw [e _ t (by simp [tyNm])] <;> cases t <;> rfl
  | tl _ => rw [e _ t (by simp [tyNm])]; cases t <;> rfl
  | fl _ => rw [e _ t (by simp [tyNm])]; cases t <;> rfl
  | ref _ => rw [e _ t (by simp [tyNm])]; cases t <;> rfl
  | mt _ => rw [e _ t (by simp [tyNm])]; cases t <;> rfl
  | rg _ => cases nr
  | fd _ => cases nr
theorem sqt_ty {K : PySem.W.Frag} {a : Addr} {us : List V} (s : SqT K H a us) : TyX K H (.ref a) (.type "tuple") := by
  rcases s with (s | ⟨o, s⟩) | ⟨o, its, n, k, c, _⟩
  · exact .base (.tup s)
  · exact .fTuple s
  · exact .kTuple k c
theorem ty_rel {K : PySem.W.Frag} (nr : isRg x = false) (g : Good K B α h H) (r : PR K α H x u L) : TyX K H u (.type (tyNm x)) := by
  cases r with
  | d r =>
    cases r with
    | non => exact .base .non
    | bl b => exact .base (.bl b)
    | int i => exact .base (.int i)
    | str s => exact .base (.str s)
    | tup s z r => exact sqt_ty s
  | tl h z r => exact .base (.lst h)
  | fl h z r =>
    rcases h with ⟨o, h⟩ | ⟨o, its, n, k, c, _⟩
    · exact .base (.frz h)
    · exact .kList k c
  | ref q =>
    obtain ⟨n, xs, vs, _, _, e⟩ := g.of_addr (List.mem_of_getElem? q)
    exact .base (.lst e)
  | mt s z r => exact sqt_ty s
  | rg _ _ _ => cases nr
  | fd _ _ => cases nr
theorem isi_one {t : Ty} (nr : isRg x = false) (p : Psts X.K B α0 H0 α H h [x] [u] L) (q : Q (.bl (tyIs h x t)) H) : CallS X (.builtin "isinstance") [u, .ty t.nm] H Q :=
  CallS.use call_isi ⟨u, .ty t.nm, .type (tyNm x), .type t.nm, tyIs h x t, rfl, .ty _, ty_rel nr p.good p.one, kit_ty (kit_tab x nr t), q⟩
theorem kit_many {K : PySem.W.Frag} (nr : isRg x = false) : ∀ ts : List Ty, PySem.W.kitAny K (.type (tyNm x)) (ts.map fun t => .type t.nm) = some (ts.any fun t => tyIs h x t)
  | [] => rfl
  | t :: ts => by
    refine kitAny_cons (kit_ty (kit_tab (h := h) x nr t)) (fun e => ?_) fun e => ?_
    · rw [List.any_cons, e, Bool.false_or]
      exact kit_many nr ts
    · rw [List.any_cons, e, Bool.true_or]
theorem isi_many {ts : List Ty} {tp : Addr} (nr : isRg x = false) (p : Psts X.K B α0 H0 α H h [x] [u] L) (ht : H tp = some (.tup (ts.map fun t => .ty t.nm))) (q : Q (.bl (ts.any fun t => tyIs h x t)) H) : CallS X (.builtin "isinstance") [u, .ref tp] H Q :=
  CallS.use call_isiT ⟨u, tp, _, .type (tyNm x), ts.map fun t => .type t.nm, _, rfl, ht, by
    have k : ∀ ts : List Ty, Paired ClsV (ts.map fun t => V.ty t.nm) (ts.map fun t => Value.type t.nm) := fun ts => by
      induction ts with
      | nil => exact .nil
      | cons t r ih => exact .cons (.ty _) ih
    exact k ts, ty_rel nr p.good p.one, kit_many nr ts, q⟩
end
end Pe
/-! Pe: methods of lists, stores to places of lists. -/
namespace Pe
open PySem PySem.Spec PyProof.Rows L2

section
variable {X : Cx} {B : List Nat} {fb : Nat} {α0 α : List Addr} {H0 H : Hp} {h h' : Hs} {x y z v : PV} {u w vv : V} {L M : List Addr} {Q : VK}
theorem store_lt {K : PySem.W.Frag} {n : Nat} (hB : ∀ b ∈ B, b ≤ fb) (e : storeOk fb n v = true) : ∀ b ∈ B, n < b → PV.lt b v := fun b hb hn => by
  unfold storeOk at e
  split at e
  · trivial
  · have h1 := of_decide_eq_true e
    have h2 := hB b hb
    omega
/-- what a method of a list asks and gives -/
def rMth (K : PySem.W.Frag) (m : Mth) : V → List V → Hp → VK → Prop := match m with
  | .append => rAppend | .pop => rPop | .reverse => rReverse | .extend => rExtend | .popAt => rPopAt | .index => rIndexD K
def Mth.id : Mth → String
  | .append => "list.append" | .pop => "list.pop" | .reverse => "list.reverse" | .extend => "list.extend" | .popAt => "list.pop" | .index => "list.index"
def Mth.nm : Mth → Str
  | .append => "append" | .pop => "pop" | .reverse => "reverse" | .extend => "extend" | .popAt => "pop" | .index => "index"
theorem mth_rule (hu : X.A.units + 65 < cLine) (m : Mth) : MtR X m.id (rMth X.K m) := by
  cases m with
  | append => exact mt_append
  | pop => exact mt_pop
  | reverse => exact mt_reverse
  | extend => exact mt_extend
  | popAt => exact mt_popAt
  | index => exact mt_indexD hu
theorem lts_map_d {b : Nat} (ds : List D) : PV.lts b (ds.map .d) := PV.lts_iff.mpr fun x hx => by
  obtain ⟨d, _, rfl⟩ := List.mem_map.mp hx
  trivial
theorem findIdx_spec {ds : List PyData} {f : PyData → Bool} {j : Nat} (e : ds.findIdx? f = some j) : ∃ z, ds[j]? = some z ∧ f z = true ∧ ∀ (m : Nat) (z' : PyData), m < j → ds[m]? = some z' → f z' = false := by
  rw [List.findIdx?_eq_some_iff_getElem] at e
  obtain ⟨hj, h1, h2⟩ := e
  refine ⟨ds[j], List.getElem?_eq_getElem hj, h1, fun m z' hm hz => ?_⟩
  have := h2 m hm
  obtain ⟨hm2, e⟩ := List.getElem?_eq_some_iff.mp hz
  rw [← e]
  simpa using this
theorem mth_ok {m : Mth} {ys : List PV} {us : List V} (hB : ∀ b ∈ B, b ≤ fb) (p : Psts X.K B α0 H0 α H h (x :: ys) (u :: us) L) (e : mthV fb m x ys h = some (z, h')) (q : Wnt X.K B α0 H0 z h' Q) : rMth X.K m u us H Q := by
  obtain ⟨_, _, L1, L2, e1, rfl, r1, r2⟩ := p.rel.uncons
  cases e1
  unfold mthV at e
  split at e
  · -- append
    rename_i n v
    cases r1 with
    | @ref _ a ea =>
    obtain ⟨vv, ws, M, N, rfl, rfl, rv, t⟩ := r2.uncons
    cases t
    have pv : Psts X.K B α0 H0 α H h [v] [vv] M := p.to rv.ones (by simp)
    obtain ⟨α', p1, hix, _⟩ := pv.conv
    split at e
    rename_i v' h1 hc
    rw [hc] at p1
    split at e
    · rename_i xs e2
      split at e
      · rename_i hs
        rw [Bool.and_eq_true, decide_eq_true_eq] at hs
        cases e
        obtain ⟨vs, e3, z1, t1⟩ := p1.good.cell n xs a e2 (hix n a ea)
        have hl := t1.length
        obtain ⟨g2, s2⟩ := p1.good.write (ys := xs ++ [v']) (ws := vs ++ [vv]) e2 (hix n a ea) (by rw [List.length_append]; exact hs.2) (t1.append (L := []) p1.one.ones)
          fun b hb hn => lts_append ((p1.good.wf b hb).2 n _ hn e2) ⟨store_lt (K := X.K) hB hs.1 b hb hn, trivial⟩
        exact ⟨a, vs, vv, rfl, rfl, e3, by rw [← hl]; exact hs.2, q _ _ _ _ ((p1.later s2 g2).dat .non)⟩
      · cases e
    · cases e
  · -- pop
    rename_i n
    cases r1 with
    | @ref _ a ea =>
    cases r2
    split at e
    · rename_i xs e2
      split at e
      · rename_i y e3
        cases e
        obtain ⟨vs, e4, z1, t1⟩ := p.good.cell n xs a e2 ea
        have hl := t1.length
        obtain ⟨w, N, e5, rz, sb⟩ := t1.get e3
        have en : N = [] := List.sublist_nil.mp sb
        subst en
        obtain ⟨N2, t2, sb2⟩ := t1.dropLast
        have en : N2 = [] := List.sublist_nil.mp sb2
        subst en
        obtain ⟨g2, s2⟩ := p.good.write e2 ea (by rw [List.length_dropLast]; omega) t2 fun b hb hn => lts_sub ((p.good.wf b hb).2 n _ hn e2) fun x hx => List.dropLast_subset _ hx
        have p1 := p.to rz.ones (List.nil_sublist _)
        exact ⟨a, vs, w, rfl, rfl, e4, by rw [← hl]; exact e5, q _ _ _ _ (p1.later s2 g2)⟩
      · cases e
    · cases e
  · -- reverse
    rename_i n
    cases r1 with
    | @ref _ a ea =>
    cases r2
    split at e
    · rename_i xs e2
      cases e
      obtain ⟨vs, e4, z1, t1⟩ := p.good.cell n xs a e2 ea
      obtain ⟨N2, t2, sb2⟩ := t1.reverse
      have en : N2 = [] := List.perm_nil.mp sb2
      subst en
      obtain ⟨g2, s2⟩ := p.good.write e2 ea (by rw [List.length_reverse]; exact z1) t2 fun b hb hn => lts_sub ((p.good.wf b hb).2 n _ hn e2) fun x hx => List.mem_reverse.mp hx
      exact ⟨a, vs, rfl, rfl, e4, q _ _ _ _ ((p.later s2 g2).dat .non)⟩
    · cases e
  · -- extend
    rename_i n v
    cases r1 with
    | @ref _ a ea =>
    obtain ⟨vv, ws, M, N, rfl, rfl, rv, t⟩ := r2.uncons
    cases t
    split at e
    · rename_i ys xs e2 e3
      split at e
      · rename_i ds hd
        split at e
        · rename_i hz
          cases e
          have ed := allD_some hd
          subst ed
          obtain ⟨b, vs2, M2, rfl, e4, z2, t2, sb⟩ := mut_ok p.good e2 rv
          obtain ⟨rd, rfl⟩ := t2.to_ds
          obtain ⟨vs, e5, z1, t1⟩ := p.good.cell n xs a e3 ea
          have l1 := t1.length
          have l2 := t2.length
          obtain ⟨g2, s2⟩ := p.good.write (ws := vs ++ vs2) e3 ea (by rw [List.length_append]; exact hz) (t1.append (L := []) t2) fun b hb hn => lts_append ((p.good.wf b hb).2 n _ hn e3) (lts_map_d ds)
          exact ⟨a, b, vs, vs2, rfl, rfl, e5, e4, by omega, q _ _ _ _ ((p.later s2 g2).dat .non)⟩
        · cases e
      · cases e
    · cases e
  · -- pop of a place
    rename_i n k
    cases r1 with
    | @ref _ a ea =>
    obtain ⟨vv, ws, M, N, rfl, rfl, rv, t⟩ := r2.uncons
    cases t
    obtain ⟨rfl, rfl⟩ := rv.int_inv
    split at e
    · rename_i xs e2
      split at e
      · rename_i j ej
        split at e
        · rename_i y e3
          split at e
          · rename_i hk
            cases e
            obtain ⟨vs, e4, z1, t1⟩ := p.good.cell n xs a e2 ea
            have hl := t1.length
            obtain ⟨w, N, e5, rz, sb⟩ := t1.get e3
            have en : N = [] := List.sublist_nil.mp sb
            subst en
            have t2 : PRs X.K α H (xs.eraseIdx j) (vs.eraseIdx j) [] := by
              obtain ⟨M1, u1, s1⟩ := t1.take j
              obtain ⟨M2, u2, s2⟩ := t1.drop (j + 1)
              have q1 : M1 = [] := List.sublist_nil.mp s1
              have q2 : M2 = [] := List.sublist_nil.mp s2
              subst q1 q2
              rw [List.eraseIdx_eq_take_drop_succ, List.eraseIdx_eq_take_drop_succ]
              exact u1.append u2
            obtain ⟨g2, s2⟩ := p.good.write e2 ea (by have := List.length_eraseIdx_le xs j; omega) t2 fun b hb hn => lts_sub ((p.good.wf b hb).2 n _ hn e2) fun x hx => List.mem_of_mem_eraseIdx hx
            have p1 := p.to rz.ones (List.nil_sublist _)
            exact ⟨a, vs, _, j, w, rfl, rfl, e4, hk.1, hk.2, by rw [← hl]; exact (ixN_seq ej).1, e5, q _ _ _ _ (p1.later s2 g2)⟩
          · cases e
        · cases e
      · cases e
    · cases e
  · -- index
    rename_i n y
    obtain ⟨vv, ws, M, N, rfl, rfl, rv, t⟩ := r2.uncons
    cases t
    split at e
    · rename_i ds d e1 e2
      split at e
      · rename_i hs
        rw [Bool.and_eq_true] at hs
        split at e
        · rename_i j ej
          cases e
          obtain ⟨z, hz, hzj, hno⟩ := findIdx_spec ej
          cases r1 with
          | @ref _ a ea =>
          exact ⟨a, vv, d, ds, j, z, rfl, rfl, toPy_ok p.good (.ref ea) e1, toPy_ok p.good rv e2, hs.1, hs.2, hz, hzj, hno, q _ _ _ _ (p.dat (.int _))⟩
        · cases e
      · cases e
    · cases e
  · -- index of an own list
    rename_i xs y
    obtain ⟨vv, ws, M, N, rfl, rfl, rv, t⟩ := r2.uncons
    cases t
    split at e
    · rename_i ds d e1 e2
      split at e
      · rename_i hs
        rw [Bool.and_eq_true] at hs
        split at e
        · rename_i j ej
          cases e
          obtain ⟨z, hz, hzj, hno⟩ := findIdx_spec ej
          have e1 := toPy_ok p.good r1 e1
          cases r1 with
          | @tl a _ _ _ ea _ _ =>
          exact ⟨a, vv, d, ds, j, z, rfl, rfl, e1, toPy_ok p.good rv e2, hs.1, hs.2, hz, hzj, hno, q _ _ _ _ (p.dat (.int _))⟩
        · cases e
      · cases e
    · cases e
  · cases e
/-- a list's place is stored -/
theorem set_ok {Qh : Hp → Prop} (hB : ∀ b ∈ B, b ≤ fb) (p : Psts X.K B α0 H0 α H h [v, x, y] [vv, u, w] L) (e : setV fb x y v h = some ((), h')) (q : ∀ α H, Step α0 H0 α H → Good X.K B α h' H → Qh H) : rSetL u w vv H Qh := by
  obtain ⟨_, _, _, L1, L2, L3, e1, rfl, rv, r1, r2⟩ := p.rel.three
  cases e1
  unfold setV at e
  split at e
  · rename_i n k
    cases r1 with
    | @ref _ a ea =>
    obtain ⟨rfl, rfl⟩ := r2.int_inv
    have pv : Psts X.K B α0 H0 α H h [v] [vv] L1 := p.to rv.ones (by simp)
    obtain ⟨α', p1, hix, _⟩ := pv.conv
    split at e
    rename_i v' h1 hc
    rw [hc] at p1
    split at e
    · rename_i xs e2
      split at e
      · rename_i j ej
        split at e
        · rename_i hs
          cases e
          obtain ⟨vs, e3, z1, t1⟩ := p1.good.cell n xs a e2 (hix n a ea)
          have hl := t1.length
          obtain ⟨g2, s2⟩ := p1.good.write (ys := xs.set j v') (ws := vs.set j vv) e2 (hix n a ea) (by rw [List.length_set]; exact z1) (t1.set j p1.one)
            fun b hb hn => lts_set ((p1.good.wf b hb).2 n _ hn e2) (store_lt (K := X.K) hB hs b hb hn)
          exact ⟨a, vs, k, j, rfl, rfl, e3, by rw [← hl]; exact ej, q _ _ (p1.step.trans s2) g2⟩
        · cases e
      · cases e
    · cases e
  · cases e
end
end Pe
/-! Pe: the readings that the evaluator gives, rule by rule. -/
namespace Pe
open PySem PySem.Spec PyProof.Rows L2

structure EnvR (K : PySem.W.Frag) (α : List Addr) (H : Hp) (env : Env) (σ : L2.St) : Prop where
  len : env.length = σ.length
  get : ∀ (i : Nat) (x : PV), env[i]? = some (some x) → ∃ v, σ[i]? = some (some v) ∧ PR K α H x v []
section
variable {K : PySem.W.Frag} {B : List Nat} {α α0 α' : List Addr} {H H0 H' : Hp} {h h' : Hs} {env env' : Env} {σ σ' : L2.St}
theorem EnvR.later (er : EnvR K α H env σ) (g : Good K B α h H) (s : Step α H α' H') : EnvR K α' H' env σ :=
  ⟨er.len, fun i x e => by
    obtain ⟨v, e2, r⟩ := er.get i x e
    exact ⟨v, e2, PR.keep (g.kept s) s.ix _ _ _ r fun _ z => absurd z List.not_mem_nil⟩⟩
theorem EnvR.same (er : EnvR K α H env σ) (p : ∀ (n : Nat) a, α[n]? = some a → α'[n]? = some a) : EnvR K α' H env σ :=
  ⟨er.len, fun i x e => by
    obtain ⟨v, e2, r⟩ := er.get i x e
    exact ⟨v, e2, r.same p⟩⟩
theorem EnvR.set {i : Nat} {x : PV} {v : V} (er : EnvR K α H env σ) (r : PR K α H x v []) : EnvR K α H (env.set i (some x)) (σ.set i (some v)) :=
  ⟨by rw [List.length_set, List.length_set]; exact er.len, fun j y e => by
    by_cases hj : i = j
    · subst hj
      by_cases hi : i < env.length
      · rw [List.getElem?_set_self hi] at e
        rw [List.getElem?_set_self (by rw [← er.len]; exact hi)]
        cases e
        exact ⟨v, rfl, r⟩
      · rw [List.getElem?_eq_none (by rw [List.length_set]; omega)] at e
        cases e
    · rw [List.getElem?_set_ne hj] at e ⊢
      exact er.get j y e⟩
theorem EnvR.wipe (er : EnvR K α H env σ) : ∀ own : List Nat, EnvR K α H (wipeE env own) (wipe σ own)
  | [] => er
  | v :: vs => by
    have ih := EnvR.wipe er vs
    unfold wipeE L2.wipe
    refine ⟨by rw [List.length_set, List.length_set]; exact ih.len, fun j y e => ?_⟩
    by_cases hj : v = j
    · subst hj
      by_cases hi : v < (wipeE env vs).length
      · rw [List.getElem?_set_self hi] at e
        cases e
      · rw [List.getElem?_eq_none (by rw [List.length_set]; omega)] at e
        cases e
    · rw [List.getElem?_set_ne hj] at e ⊢
      exact ih.get j y e
theorem bnd_some {α β : Type} {m : M α} {f : α → M β} {h : Hs} {r : β × Hs} (e : M.bnd m f h = some r) : ∃ a h1, m h = some (a, h1) ∧ f a h1 = some r := by
  unfold M.bnd at e
  split at e
  · rename_i a h1 q
    exact ⟨a, h1, q, e⟩
  · cases e
theorem ret_some {α : Type} {a b : α} {h h' : Hs} (e : M.ret a h = some (b, h')) : b = a ∧ h' = h := by
  cases e
  exact ⟨rfl, rfl⟩
theorem boolV_some {x : PV} {b : Bool} (e : boolV x h = some (b, h')) : x = .d (.bl b) ∧ h' = h := by
  unfold boolV at e
  split at e
  · cases e; exact ⟨rfl, rfl⟩
  · cases e
end

/-! ### the readings -/
def tM (K : PySem.W.Frag) (B : List Nat) (m : Env → M PV) : TE := fun σ H Q => ∃ env α h z h', Good K B α h H ∧ EnvR K α H env σ ∧ m env h = some (z, h') ∧ Wnt K B α H z h' Q
def tMs (K : PySem.W.Frag) (B : List Nat) (m : Env → M (List PV)) : TA := fun σ H Q => ∃ env α h zs h', Good K B α h H ∧ EnvR K α H env σ ∧ m env h = some (zs, h') ∧ ∀ α' H' vs L, Psts K B α H α' H' h' zs vs L → Q vs H'
def tMB (K : PySem.W.Frag) (B : List Nat) (m : Env → M Bool) : TT := fun σ H Q => ∃ env α h b h', Good K B α h H ∧ EnvR K α H env σ ∧ m env h = some (b, h') ∧ ∀ α' H', Step α H α' H' → Good K B α' h' H' → Q b H'
theorem peI {X : Cx} {e : Expr} {t t' : TE} (p : PE X e t) (i : ∀ σ H Q, t' σ H Q → t σ H Q) : PE X e t' := ⟨fun pins s σ H Q I h => p.run pins s σ H Q I (i σ H Q h)⟩
theorem ptI {X : Cx} {e : Expr} {t t' : TT} (p : PT X e t) (i : ∀ σ H Q, t' σ H Q → t σ H Q) : PT X e t' := ⟨fun pins s σ H Q I h => p.run pins s σ H Q I (i σ H Q h)⟩
theorem pwI {X : Cx} {e : Expr} {t t' : TT} (p : PW X e t) (i : ∀ σ H Q, t' σ H Q → t σ H Q) : PW X e t' := ⟨fun w pins s σ H Q I h => p.run w pins s σ H Q I (i σ H Q h)⟩
theorem paI {X : Cx} {e : List Expr} {t t' : TA} (p : PA X e t) (i : ∀ σ H Q, t' σ H Q → t σ H Q) : PA X e t' := ⟨fun pos pins s σ H Q I h => p.run pos pins s σ H Q I (i σ H Q h)⟩
theorem psI {X : Cx} {e : Stmt} {t t' : TS} (p : PS X e t) (i : ∀ D σ H, t' D σ H → t D σ H) : PS X e t' := ⟨fun pins s σ H D I h => p.run pins s σ H D I (i D σ H h)⟩
theorem pssI {X : Cx} {e : List Stmt} {t t' : TS} (p : PSs X e t) (i : ∀ D σ H, t' D σ H → t D σ H) : PSs X e t' := ⟨fun pins s σ H D I h => p.run pins s σ H D I (i D σ H h)⟩
theorem pgI {X : Cx} {e : Expr} {t t' : TG} (p : PG X e t) (i : ∀ v σ H Q, t' v σ H Q → t v σ H Q) : PG X e t' := ⟨fun pins s σ H v u Q I r h => p.run pins s σ H v u Q I r (i v σ H Q h)⟩
theorem pgsI {X : Cx} {e : List Expr} {t t' : TGs} (p : PGs X e t) (i : ∀ v σ H Q, t' v σ H Q → t v σ H Q) : PGs X e t' := ⟨fun pins s σ H v u Q I r h => p.run pins s σ H v u Q I r (i v σ H Q h)⟩
theorem piI {X : Cx} {tg e : Expr} {t t' : TI} (p : PI X tg e t) (i : ∀ σ H R, t' σ H R → t σ H R) : PI X tg e t' := ⟨fun pins s σ H R I h => p.run pins s σ H R I (i σ H R h)⟩
theorem piOr {X : Cx} {tg e : Expr} {t t' : TI} (p : PI X tg e t) (p' : PI X tg e t') : PI X tg e (fun σ H R => t σ H R ∨ t' σ H R) := ⟨fun pins s σ H R I h => h.elim (p.run pins s σ H R I) (p'.run pins s σ H R I)⟩

section
variable {X : Cx} {K : PySem.W.Frag} {B : List Nat} {fb : Nat} {a b c : Expr} {ma mb mc : Env → M PV} {pos : Pos}
theorem e_cst_int {i : Int} {j : Nat} : PE X (.Constant (.int i) j pos) (tM K B fun _ => M.ret (.d (.int i))) := peI pe_int fun σ H Q ⟨env, α, h, z, h', g, er, e, q⟩ => by
  obtain ⟨rfl, rfl⟩ := ret_some e
  exact q _ _ _ _ ((Psts.nil g).dat (.int i))
theorem e_cst_bl {i : Bool} {j : Nat} : PE X (.Constant (.bool i) j pos) (tM K B fun _ => M.ret (.d (.bl i))) := peI pe_bl fun σ H Q ⟨env, α, h, z, h', g, er, e, q⟩ => by
  obtain ⟨rfl, rfl⟩ := ret_some e
  exact q _ _ _ _ ((Psts.nil g).dat (.bl i))
theorem e_cst_str {i : Str} {j : Nat} : PE X (.Constant (.str i) j pos) (tM K B fun _ => M.ret (.d (.str i))) := peI pe_str fun σ H Q ⟨env, α, h, z, h', g, er, e, q⟩ => by
  obtain ⟨rfl, rfl⟩ := ret_some e
  exact q _ _ _ _ ((Psts.nil g).dat (.str i))
theorem e_cst_non {j : Nat} : PE X (.Constant .none j pos) (tM K B fun _ => M.ret (.d .non)) := peI pe_non fun σ H Q ⟨env, α, h, z, h', g, er, e, q⟩ => by
  obtain ⟨rfl, rfl⟩ := ret_some e
  exact q _ _ _ _ ((Psts.nil g).dat .non)
theorem e_var {i : Nat} {x : Str} (hN : X.N[i]? = some x) (hv : Vis X.env.scope x) (hd : (x == ("__debug__" : Str)) = false) (hcd : (x == ("__classdict__" : Str)) = false) :
    PE X (.Name x pos) (tM K B fun env => M.of (match env[i]? with
      | some (some v) => some v
      | _ => none)) := peI (pe_var hN hv hd hcd) fun σ H Q ⟨env, α, h, z, h', g, er, e, q⟩ => by
  dsimp only at e
  split at e
  · rename_i v ev
    obtain ⟨rfl, rfl⟩ := ret_some e
    obtain ⟨u, e2, r⟩ := er.get i _ ev
    exact ⟨u, e2, q _ _ _ _ ((Psts.nil g).to r.ones (List.Sublist.refl _))⟩
  · cases e
theorem e_bin {o : BOp} (ha : PE X a (tM X.K B ma)) (hb : PE X b (tM X.K B mb)) : PE X (.BinOp a o.op b pos) (tM X.K B fun env => M.bnd (ma env) fun x => M.bnd (mb env) fun y => binV o x y) :=
  peI (pe_op ops_rule ha hb) fun σ H Q ⟨env, α, h, z, h', g, er, e, q⟩ => by
    obtain ⟨x, h1, e1, e⟩ := bnd_some e
    obtain ⟨y, h2, e2, e3⟩ := bnd_some e
    exact ⟨env, α, h, x, h1, g, er, e1, fun α1 H1 vx Lx p1 => ⟨env, α1, h1, y, h2, p1.good, er.later g p1.step, e2, fun α2 H2 vy Ly p2 => bin_ok (p1.app p2) e3 q⟩⟩
theorem e_un {o : UOp} (ha : PE X a (tM X.K B ma)) : PE X (.UnaryOp o.op a pos) (tM X.K B fun env => M.bnd (ma env) fun x => unV o x) :=
  peI (pe_un uns_rule ha) fun σ H Q ⟨env, α, h, z, h', g, er, e, q⟩ => by
    obtain ⟨x, h1, e1, e⟩ := bnd_some e
    exact ⟨env, α, h, x, h1, g, er, e1, fun α1 H1 vx Lx p1 => un_ok p1 e q⟩
theorem bl_of {α0 α : List Addr} {H0 H : Hp} {h : Hs} {k : Bool} {v : V} {L : List Addr} (p : Psts K B α0 H0 α H h [.d (.bl k)] [v] L) : v = .bl k := p.one.bl_inv.1
theorem e_nt (ha : PE X a (tM K B ma)) : PE X (.UnaryOp .Not a pos) (tM K B fun env => M.bnd (ma env) fun x => M.bnd (boolV x) fun b => M.ret (.d (.bl (!b)))) :=
  peI (pe_not ha) fun σ H Q ⟨env, α, h, z, h', g, er, e, q⟩ => by
    obtain ⟨x, h1, e1, e⟩ := bnd_some e
    obtain ⟨k, h2, e2, e3⟩ := bnd_some e
    obtain ⟨rfl, rfl⟩ := boolV_some e2
    obtain ⟨rfl, rfl⟩ := ret_some e3
    exact ⟨env, α, h, _, _, g, er, e1, fun α1 H1 vx Lx p1 => ⟨k, bl_of p1, q _ _ _ _ (p1.dat (.bl _))⟩⟩
def mAn (ma mb : Env → M PV) : Env → M PV := fun env => M.bnd (ma env) fun x => M.bnd (boolV x) fun c => if c then mb env else M.ret (.d (.bl false))
def mOr (ma mb : Env → M PV) : Env → M PV := fun env => M.bnd (ma env) fun x => M.bnd (boolV x) fun c => if c then M.ret (.d (.bl true)) else mb env
theorem e_an {r : List Expr} (ha : PE X a (tM K B ma)) (hb : PE X (.BoolOp .And (b :: r) pos) (tM K B mb)) : PE X (.BoolOp .And (a :: b :: r) pos) (tM K B (mAn ma mb)) :=
  peI (pe_and ha hb) fun σ H Q ⟨env, α, h, z, h', g, er, e, q⟩ => by
    obtain ⟨x, h1, e1, e⟩ := bnd_some e
    obtain ⟨k, h2, e2, e3⟩ := bnd_some e
    obtain ⟨rfl, rfl⟩ := boolV_some e2
    refine ⟨env, α, h, _, _, g, er, e1, fun α1 H1 vx Lx p1 => ⟨k, bl_of p1, ?_⟩⟩
    cases k with
    | true => exact iteT ⟨env, α1, _, z, h', p1.good, er.later g p1.step, e3, fun α2 H2 v L p2 => q _ _ _ _ ((p1.app p2).to p2.rel (List.sublist_append_right _ _))⟩
    | false =>
      obtain ⟨rfl, rfl⟩ := ret_some e3
      exact iteF (q _ _ _ _ (p1.dat (.bl _)))
theorem e_or {r : List Expr} (ha : PE X a (tM K B ma)) (hb : PE X (.BoolOp .Or (b :: r) pos) (tM K B mb)) : PE X (.BoolOp .Or (a :: b :: r) pos) (tM K B (mOr ma mb)) :=
  peI (pe_or ha hb) fun σ H Q ⟨env, α, h, z, h', g, er, e, q⟩ => by
    obtain ⟨x, h1, e1, e⟩ := bnd_some e
    obtain ⟨k, h2, e2, e3⟩ := bnd_some e
    obtain ⟨rfl, rfl⟩ := boolV_some e2
    refine ⟨env, α, h, _, _, g, er, e1, fun α1 H1 vx Lx p1 => ⟨k, bl_of p1, ?_⟩⟩
    cases k with
    | false => exact iteF ⟨env, α1, _, z, h', p1.good, er.later g p1.step, e3, fun α2 H2 v L p2 => q _ _ _ _ ((p1.app p2).to p2.rel (List.sublist_append_right _ _))⟩
    | true =>
      obtain ⟨rfl, rfl⟩ := ret_some e3
      exact iteT (q _ _ _ _ (p1.dat (.bl _)))
def mCmp (o : COp) (ma mb : Env → M PV) : Env → M PV := fun env => M.bnd (ma env) fun x => M.bnd (mb env) fun y => M.bnd (cmpV o x y) fun c => M.ret (.d (.bl c))
theorem cmp_read {o : COp} (hu : X.A.units + 65 < cLine) {σ : L2.St} {H : Hp} {Q : VK} (t : tM X.K B (mCmp o ma mb) σ H Q) : tOp (OpS X (compareOp o.op)) (tM X.K B ma) (tM X.K B mb) σ H Q := by
  obtain ⟨env, α, h, z, h', g, er, e, q⟩ := t
  obtain ⟨x, h1, e1, e⟩ := bnd_some e
  obtain ⟨y, h2, e2, e⟩ := bnd_some e
  obtain ⟨k, h3, e3, e4⟩ := bnd_some e
  obtain ⟨rfl, rfl⟩ := ret_some e4
  obtain rfl := cmpV_same e3
  exact ⟨env, α, h, x, h1, g, er, e1, fun α1 H1 vx Lx p1 => ⟨env, α1, h1, y, _, p1.good, er.later g p1.step, e2, fun α2 H2 vy Ly p2 => cmp_ok hu (p1.app p2) e3 (q _ _ _ _ ((p1.app p2).dat (.bl _)))⟩⟩
theorem e_cmp {o : COp} (hu : X.A.units + 65 < cLine) (ha : PE X a (tM X.K B ma)) (hb : PE X b (tM X.K B mb)) (hm : behindInMarks o.op b = false) : PE X (.Compare a [o.op] [b] pos) (tM X.K B (mCmp o ma mb)) :=
  peI (pe_cmpR ops_rule ha hb hm) fun σ H Q t => cmp_read hu t
/-- a test of it -/
theorem tM_bl {m : Env → M PV} {σ : L2.St} {H : Hp} {Q : Bool → Hp → Prop} (t : tMB K B (fun env => M.bnd (m env) boolV) σ H Q) : tM K B m σ H fun x H1 => ∃ k, x = .bl k ∧ Q k H1 := by
  obtain ⟨env, α, h, k, h', g, er, e, q⟩ := t
  obtain ⟨x, h1, e1, e2⟩ := bnd_some e
  obtain ⟨rfl, rfl⟩ := boolV_some e2
  exact ⟨env, α, h, _, _, g, er, e1, fun α1 H1 v L p => ⟨k, bl_of p, q _ _ p.step p.good⟩⟩
abbrev mB (m : Env → M PV) : Env → M Bool := fun env => M.bnd (m env) boolV
theorem t_cmp {o : COp} (hu : X.A.units + 65 < cLine) (ha : PE X a (tM X.K B ma)) (hb : PE X b (tM X.K B mb)) (hm : behindInMarks o.op b = false) : PT X (.Compare a [o.op] [b] pos) (tMB X.K B (mB (mCmp o ma mb))) :=
  ptI (pt_cmpR ops_rule ha hb hm) fun σ H Q t => cmp_read hu (tM_bl t)
def mChn (o p : COp) (ma mb mc : Env → M PV) : Env → M PV := fun env => M.bnd (ma env) fun x => M.bnd (mb env) fun y => M.bnd (cmpV o x y) fun k =>
  if k then M.bnd (mc env) fun z => M.bnd (cmpV p y z) fun l => M.ret (.d (.bl l)) else M.ret (.d (.bl false))
theorem chn_read {o p : COp} (hu : X.A.units + 65 < cLine) {σ : L2.St} {H : Hp} {Q : VK} (t : tM X.K B (mChn o p ma mb mc) σ H Q) : tChain (OpS X (compareOp o.op)) (OpS X (compareOp p.op)) (tM X.K B ma) (tM X.K B mb) (tM X.K B mc) σ H Q := by
  obtain ⟨env, α, h, z, h', g, er, e, q⟩ := t
  obtain ⟨x, h1, e1, e⟩ := bnd_some e
  obtain ⟨y, h2, e2, e⟩ := bnd_some e
  obtain ⟨k, h3, e3, e⟩ := bnd_some e
  obtain rfl := cmpV_same e3
  refine ⟨env, α, h, x, h1, g, er, e1, fun α1 H1 vx Lx p1 => ⟨env, α1, h1, y, h3, p1.good, er.later g p1.step, e2, fun α2 H2 vy Ly p2 => ?_⟩⟩
  have p12 := p1.app p2
  have py := p12.to p2.rel (List.sublist_append_right _ _)
  refine cmp_ok hu p12 e3 ⟨k, rfl, ?_⟩
  cases k with
  | false =>
    obtain ⟨rfl, rfl⟩ := ret_some e
    exact iteF (q _ _ _ _ (p12.dat (.bl _)))
  | true =>
    obtain ⟨w, h4, e4, e⟩ := bnd_some e
    obtain ⟨l, h5, e5, e⟩ := bnd_some e
    obtain ⟨rfl, rfl⟩ := ret_some e
    obtain rfl := cmpV_same e5
    refine iteT ⟨env, α2, h3, w, h', p12.good, er.later g p12.step, e4, fun α3 H3 vz Lz p3 => ?_⟩
    have p123 := py.app p3
    exact cmp_ok hu p123 e5 (q _ _ _ _ (p123.dat (.bl _)))
theorem e_chn {o p : COp} (hu : X.A.units + 65 < cLine) (ha : PE X a (tM X.K B ma)) (hb : PE X b (tM X.K B mb)) (hc : PE X c (tM X.K B mc)) (hm : lastMarks [o.op, p.op] [b, c] = false) : PE X (.Compare a [o.op, p.op] [b, c] pos) (tM X.K B (mChn o p ma mb mc)) :=
  peI (pe_chain ops_rule ops_rule ha hb hc hm) fun σ H Q t => chn_read hu t
theorem t_chn {o p : COp} (hu : X.A.units + 65 < cLine) (ha : PE X a (tM X.K B ma)) (hb : PE X b (tM X.K B mb)) (hc : PE X c (tM X.K B mc)) (hm : lastMarks [o.op, p.op] [b, c] = false) : PT X (.Compare a [o.op, p.op] [b, c] pos) (tMB X.K B (mB (mChn o p ma mb mc))) :=
  ptI (pt_chain ops_rule ops_rule ha hb hc hm) fun σ H Q t => chn_read hu (tM_bl t)
theorem t_val (ha : PE X a (tM K B ma)) (he : ∀ whole, PySem.isTrue a X.env whole = (do let v ← whole; standAt a.pos; holding [v] (truthy v))) : PT X a (tMB K B (mB ma)) :=
  ptI (pt_val ha he) fun σ H Q t => tM_bl t
/-- parts of a test -/
theorem t_not (ha : PT X a (tMB K B (mB ma))) : PT X (.UnaryOp .Not a pos) (tMB K B (mB fun env => M.bnd (ma env) fun x => M.bnd (boolV x) fun b => M.ret (.d (.bl (!b))))) :=
  ptI (pt_not ha) fun σ H Q ⟨env, α, h, k, h', g, er, e, q⟩ => by
    obtain ⟨z, h1, e1, e2⟩ := bnd_some e
    obtain ⟨x, h2, e3, e4⟩ := bnd_some e1
    obtain ⟨c, h3, e5, e6⟩ := bnd_some e4
    obtain ⟨rfl, rfl⟩ := boolV_some e2
    obtain ⟨ez, rfl⟩ := ret_some e6
    cases ez
    refine ⟨env, α, h, c, _, g, er, ?_, q⟩
    show M.bnd (ma env) boolV h = _
    unfold M.bnd
    rw [e3]
    exact e5
theorem w_one {op : BoolOp} (ha : PT X a (tMB K B (mB ma))) : PW X (.BoolOp op [a] pos) (tMB K B (mB ma)) := by
  cases op with
  | And => exact pw_and1 ha
  | Or => exact pw_or1 ha
theorem w_an {r : List Expr} (ha : PT X a (tMB K B (mB ma))) (hb : PW X (.BoolOp .And (b :: r) pos) (tMB K B (mB mb))) : PW X (.BoolOp .And (a :: b :: r) pos) (tMB K B (mB (mAn ma mb))) :=
  pwI (pw_and ha hb) fun σ H Q ⟨env, α, h, k, h', g, er, e, q⟩ => by
    obtain ⟨z, h1, e1, e2⟩ := bnd_some e
    obtain ⟨x, h2, e3, e4⟩ := bnd_some e1
    obtain ⟨c, h3, e5, e6⟩ := bnd_some e4
    refine ⟨env, α, h, c, h3, g, er, ?_, fun α1 H1 s1 g1 => ?_⟩
    · show M.bnd (ma env) boolV h = _
      unfold M.bnd
      rw [e3]
      exact e5
    · cases c with
      | true => exact iteT ⟨env, α1, h3, k, h', g1, er.later g s1, by show M.bnd (mb env) boolV h3 = _; unfold M.bnd; rw [show mb env h3 = some (z, h1) from e6]; exact e2, fun α2 H2 s2 g2 => q _ _ (s1.trans s2) g2⟩
      | false =>
        obtain ⟨rfl, rfl⟩ := ret_some e6
        cases e2
        exact iteF (q _ _ s1 g1)
theorem w_or {r : List Expr} (ha : PT X a (tMB K B (mB ma))) (hb : PW X (.BoolOp .Or (b :: r) pos) (tMB K B (mB mb))) : PW X (.BoolOp .Or (a :: b :: r) pos) (tMB K B (mB (mOr ma mb))) :=
  pwI (pw_or ha hb) fun σ H Q ⟨env, α, h, k, h', g, er, e, q⟩ => by
    obtain ⟨z, h1, e1, e2⟩ := bnd_some e
    obtain ⟨x, h2, e3, e4⟩ := bnd_some e1
    obtain ⟨c, h3, e5, e6⟩ := bnd_some e4
    refine ⟨env, α, h, c, h3, g, er, ?_, fun α1 H1 s1 g1 => ?_⟩
    · show M.bnd (ma env) boolV h = _
      unfold M.bnd
      rw [e3]
      exact e5
    · cases c with
      | false => exact iteF ⟨env, α1, h3, k, h', g1, er.later g s1, by show M.bnd (mb env) boolV h3 = _; unfold M.bnd; rw [show mb env h3 = some (z, h1) from e6]; exact e2, fun α2 H2 s2 g2 => q _ _ (s1.trans s2) g2⟩
      | true =>
        obtain ⟨rfl, rfl⟩ := ret_some e6
        cases e2
        exact iteT (q _ _ s1 g1)
theorem e_ifx (hc : PT X c (tMB K B (mB mc))) (ha : PE X a (tM K B ma)) (hb : PE X b (tM K B mb)) : PE X (.IfExp c a b pos) (tM K B fun env => M.bnd (mc env) fun x => M.bnd (boolV x) fun k => if k then ma env else mb env) :=
  peI (pe_ifExp hc ha hb) fun σ H Q ⟨env, α, h, z, h', g, er, e, q⟩ => by
    obtain ⟨x, h1, e1, e⟩ := bnd_some e
    obtain ⟨k, h2, e2, e3⟩ := bnd_some e
    refine ⟨env, α, h, k, h2, g, er, by show M.bnd (mc env) boolV h = _; unfold M.bnd; rw [e1]; exact e2, fun α1 H1 s1 g1 => ?_⟩
    have fin : Wnt K B α1 H1 z h' Q := fun α2 H2 v L p2 => q _ _ _ _ ⟨s1.trans p2.step, p2.good, p2.rel, p2.nd, p2.out, fun a ha => s1.none_back (p2.fr a ha)⟩
    cases k with
    | true => exact iteT ⟨env, α1, h2, z, h', g1, er.later g s1, e3, fin⟩
    | false => exact iteF ⟨env, α1, h2, z, h', g1, er.later g s1, e3, fin⟩

/-! ### arguments, displays, subscripts, calls -/
variable {es : List Expr} {ms : Env → M (List PV)}
theorem a_nil : PA X [] (tMs K B fun _ => M.ret []) := paI pa_nil fun σ H Q ⟨env, α, h, z, h', g, er, e, q⟩ => by
  obtain ⟨rfl, rfl⟩ := ret_some e
  exact q _ _ _ _ (Psts.nil g)
theorem a_cons (ha : PE X a (tM K B ma)) (hr : PA X es (tMs K B ms)) (hs : starEach (a :: es) X.env = (false, eval a X.env) :: starEach es X.env) : PA X (a :: es) (tMs K B fun env => M.bnd (ma env) fun x => M.bnd (ms env) fun xs => M.ret (x :: xs)) :=
  paI (pa_cons ha hr hs) fun σ H Q ⟨env, α, h, z, h', g, er, e, q⟩ => by
    obtain ⟨x, h1, e1, e⟩ := bnd_some e
    obtain ⟨xs, h2, e2, e3⟩ := bnd_some e
    obtain ⟨rfl, rfl⟩ := ret_some e3
    exact ⟨env, α, h, x, h1, g, er, e1, fun α1 H1 vx Lx p1 => ⟨env, α1, h1, xs, h', p1.good, er.later g p1.step, e2, fun α2 H2 vs L p2 => q _ _ _ _ (p1.app p2)⟩⟩
theorem e_tup {x1 : Nat} (h : PA X es (tMs K B ms)) : PE X (.Tuple es x1 pos) (tM K B fun env => M.bnd (ms env) fun xs => if xs.length ≤ sizeLine then M.ret (mkTup xs) else M.no) :=
  peI (pe_tup h) fun σ H Q ⟨env, α, h, z, h', g, er, e, q⟩ => by
    obtain ⟨xs, h1, e1, e⟩ := bnd_some e
    split at e
    · rename_i hz
      obtain ⟨rfl, rfl⟩ := ret_some e
      refine ⟨env, α, h, xs, _, g, er, e1, fun α1 H1 vs L p1 => ⟨by rw [← p1.rel.length]; exact hz, fun c nc => ?_⟩⟩
      have p2 := p1.fresh (o := .tup vs) nc
      exact q _ _ _ _ (p2.to (mkTup_rel (.inl (.inl upd_same)) hz p2.rel).ones (List.Sublist.refl _))
    · cases e
theorem e_lst (h : PA X es (tMs K B ms)) : PE X (.List es pos) (tM K B fun env => M.bnd (ms env) fun xs => if xs.length ≤ sizeLine then M.ret (.tl xs) else M.no) :=
  peI (pe_lst h) fun σ H Q ⟨env, α, h, z, h', g, er, e, q⟩ => by
    obtain ⟨xs, h1, e1, e⟩ := bnd_some e
    split at e
    · rename_i hz
      obtain ⟨rfl, rfl⟩ := ret_some e
      exact ⟨env, α, h, xs, _, g, er, e1, fun α1 H1 vs L p1 => ⟨by rw [← p1.rel.length]; exact hz, fun c nc => q _ _ _ _ (p1.newList nc p1.rel (List.Sublist.refl _) hz)⟩⟩
    · cases e
theorem e_idx (ha : PE X a (tM X.K B ma)) (hb : PE X b (tM X.K B mb)) (hs : PlainIx b) : PE X (.Subscript a b pos) (tM X.K B fun env => M.bnd (ma env) fun x => M.bnd (mb env) fun y => idxV x y) :=
  peI (pe_ix ix_seq ha hb hs) fun σ H Q ⟨env, α, h, z, h', g, er, e, q⟩ => by
    obtain ⟨x, h1, e1, e⟩ := bnd_some e
    obtain ⟨y, h2, e2, e3⟩ := bnd_some e
    exact ⟨env, α, h, x, h1, g, er, e1, fun α1 H1 vx Lx p1 => ⟨env, α1, h1, y, h2, p1.good, er.later g p1.step, e2, fun α2 H2 vy Ly p2 => idx_ok (p1.app p2) e3 q⟩⟩
theorem e_blt {bl : Blt} {x : Str} {p : Pos} (hc : X.calm = true) (ni : ∀ ts, bl ≠ .isi ts) (hg : Gl X x) (hm : X.mg x = none) (hv : bootBuiltins x = some bl.val) (ha : PA X (a :: es) (tMs X.K B ms)) (hn : x ≠ Str.ofString "__name__") (hd : (x == Str.ofString "__debug__") = false)
    (hs : starEach (a :: es) X.env = (false, eval a X.env) :: starEach es X.env) (hp : (List.any (backTo pos (starEach es X.env)) fun x => x.1) = false) :
    PE X (.Call (.Name x p) (a :: es) [] pos) (tM X.K B fun env => M.bnd (ms env) fun xs => bltV bl xs) := by
  have key : ∀ (f : Value), bl.val = f → (∃ i, f = .builtin i) ∨ (∃ i, f = .type i) → PE X (.Call (.Name x p) (a :: es) [] pos) (tCB (CallS X f) (tMs X.K B ms)) := fun f ef h => by
    rcases h with ⟨i, rfl⟩ | ⟨i, rfl⟩
    · exact pe_callB calls_rule hg hm (by rw [hv, ef]) ha hn hd hs hp
    · exact pe_callTy calls_rule hg hm (by rw [hv, ef]) ha hn hd hs hp
  refine peI (key bl.val rfl (by cases bl <;> first | exact .inl ⟨_, rfl⟩ | exact .inr ⟨_, rfl⟩)) fun σ H Q ⟨env, α, h, z, h', g, er, e, q⟩ => ?_
  obtain ⟨xs, h1, e1, e⟩ := bnd_some e
  exact ⟨env, α, h, xs, h1, g, er, e1, fun α1 H1 vs L p1 => blt_ok hc ni p1 e q⟩
theorem tys_pa {ts : List Ty} {es : List Expr} (h : PA X es (fun _ H Q => Q (ts.map fun t => V.ty t.nm) H)) {x1 : Nat} {p2 : Pos} : PE X (.Tuple es x1 p2) (fun _ H Q => ts.length ≤ sizeLine ∧ ∀ p, H p = none → Q (.ref p) (upd H p (.tup (ts.map fun t => V.ty t.nm)))) :=
  peI (pe_tup h) fun σ H Q ⟨hz, q⟩ => ⟨by rw [List.length_map]; exact hz, q⟩
theorem isi_inv {ts : List Ty} {v : PV} {h : Hs} {r : PV × Hs} (e : bltV (.isi ts) [v] h = some r) : isRg v = false ∧ some (PV.d (.bl (ts.any fun t => tyIs h v t)), h) = some r := by
  have e' : (if isRg v then none else some (PV.d (.bl (ts.any fun t => tyIs h v t)), h)) = some r := e
  cases k : isRg v with
  | true => rw [k] at e'; cases e'
  | false => rw [k] at e'; exact ⟨rfl, e'⟩
theorem e_isi1 {t : Ty} {x : Str} {p : Pos} {b : Expr} (hb : PE X b (tC (.ty t.nm))) (hg : Gl X x) (hm : X.mg x = none) (hv : bootBuiltins x = some (.builtin "isinstance")) (ha : PE X a (tM X.K B ma)) (hn : x ≠ Str.ofString "__name__") (hd : (x == Str.ofString "__debug__") = false)
    (hs : starEach [a, b] X.env = (false, eval a X.env) :: starEach [b] X.env) (hs2 : starEach [b] X.env = [(false, eval b X.env)]) (hp : (List.any (backTo pos (starEach [b] X.env)) fun x => x.1) = false) :
    PE X (.Call (.Name x p) [a, b] [] pos) (tM X.K B fun env => M.bnd (M.bnd (ma env) fun x => M.bnd (M.ret []) fun xs => M.ret (x :: xs)) fun xs => bltV (.isi [t]) xs) :=
  peI (pe_callB calls_rule hg hm hv (pa_cons ha (pa_cons hb pa_nil hs2) hs) hn hd hs hp) fun σ H Q ⟨env, α, h, z, h', g, er, e, q⟩ => by
    obtain ⟨xs, h1, e1, e⟩ := bnd_some e
    obtain ⟨v, h2, e2, e3⟩ := bnd_some e1
    obtain ⟨_, h3, e4, e5⟩ := bnd_some e3
    obtain ⟨rfl, rfl⟩ := ret_some e4
    obtain ⟨rfl, rfl⟩ := ret_some e5
    refine ⟨env, α, h, v, _, g, er, e2, fun α1 H1 vv L p1 => ?_⟩
    obtain ⟨nr, e⟩ := isi_inv e
    cases e
    refine isi_one nr p1 ?_
    have := q _ _ _ _ (p1.dat (.bl _))
    simpa using this
theorem e_isiT {ts : List Ty} {x : Str} {p p2 : Pos} {x1 : Nat} (hz : ts.length ≤ sizeLine) (hb : PA X es (fun _ H Q => Q (ts.map fun t => V.ty t.nm) H)) (hg : Gl X x) (hm : X.mg x = none) (hv : bootBuiltins x = some (.builtin "isinstance")) (ha : PE X a (tM X.K B ma)) (hn : x ≠ Str.ofString "__name__") (hd : (x == Str.ofString "__debug__") = false)
    (hs : starEach [a, .Tuple es x1 p2] X.env = (false, eval a X.env) :: starEach [.Tuple es x1 p2] X.env) :
    PE X (.Call (.Name x p) [a, .Tuple es x1 p2] [] pos) (tM X.K B fun env => M.bnd (M.bnd (ma env) fun x => M.bnd (M.ret []) fun xs => M.ret (x :: xs)) fun xs => bltV (.isi ts) xs) :=
  peI (pe_callB calls_rule hg hm hv (pa_cons ha (pa_cons (tys_pa hb) pa_nil) hs) hn hd hs (by rfl)) fun σ H Q ⟨env, α, h, z, h', g, er, e, q⟩ => by
    obtain ⟨xs, h1, e1, e⟩ := bnd_some e
    obtain ⟨v, h2, e2, e3⟩ := bnd_some e1
    obtain ⟨_, h3, e4, e5⟩ := bnd_some e3
    obtain ⟨rfl, rfl⟩ := ret_some e4
    obtain ⟨rfl, rfl⟩ := ret_some e5
    refine ⟨env, α, h, v, _, g, er, e2, fun α1 H1 vv L p1 => ⟨hz, fun c nc => ?_⟩⟩
    obtain ⟨nr, e⟩ := isi_inv e
    cases e
    have p2 := p1.fresh (o := .tup (ts.map fun t => V.ty t.nm)) nc
    exact isi_many nr p2 upd_same (q _ _ _ _ (p2.dat (.bl _)))
end
end Pe
/-! Pe: slices, methods, calls of defs, targets. -/
namespace Pe
open PySem PySem.Spec PyProof.Rows L2

section
variable {X : Cx} {K : PySem.W.Frag} {B : List Nat} {fb : Nat} {a b c : Expr} {ma mb mc : Env → M PV} {pos : Pos} {es : List Expr} {ms : Env → M (List PV)}
/-! ### slices -/
/-- a slice's part -/
def mPart (f : Bool) (m : Env → M PV) : Env → M (Option Int) := fun env => M.bnd (if f then m env else M.ret (.d .non)) fun v => M.of (optI f v)
def tMO (K : PySem.W.Frag) (B : List Nat) (m : Env → M (Option Int)) : L2.TO := fun σ H Q => ∃ env α h l h', Good K B α h H ∧ EnvR K α H env σ ∧ m env h = some (l, h') ∧ ∀ α' H', Step α H α' H' → Good K B α' h' H' → Q l H'
theorem o_none {m : Env → M PV} : PO X none (tMO K B (mPart false m)) := ⟨fun pins s σ H Q I ⟨env, α, h, l, h', g, er, e, q⟩ => by
  obtain ⟨v, h1, e1, e2⟩ := bnd_some e
  obtain ⟨rfl, rfl⟩ := ret_some e1
  obtain ⟨rfl, rfl⟩ := ret_some (show M.ret none _ = some (l, h') from e2)
  exact (po_none (X := X)).run pins s σ H Q I (q α H .refl g)⟩
theorem o_some (ha : PE X a (tM K B ma)) : PO X (some a) (tMO K B (mPart true ma)) := ⟨fun pins s σ H Q I ⟨env, α, h, l, h', g, er, e, q⟩ => by
  obtain ⟨v, h1, e1, e2⟩ := bnd_some e
  refine (po_some ha).run pins s σ H Q I ⟨env, α, h, v, h1, g, er, e1, fun α1 H1 vv L p1 => ?_⟩
  unfold optI at e2
  rw [if_pos rfl] at e2
  unfold intOf at e2
  split at e2
  · obtain ⟨rfl, rfl⟩ := ret_some (show M.ret (some _) _ = some (l, h') from e2)
    obtain ⟨rfl, _⟩ := p1.one.int_inv
    exact ⟨_, rfl, q _ _ p1.step p1.good⟩
  · cases e2⟩
theorem e_slc {lo hi : Option Expr} {ml mh : Env → M (Option Int)} {p2 : Pos} (ha : PE X a (tM X.K B ma)) (hl : PO X lo (tMO X.K B ml)) (hh : PO X hi (tMO X.K B mh)) :
    PE X (.Subscript a (.Slice lo hi none p2) pos) (tM X.K B fun env => M.bnd (ma env) fun x => M.bnd (ml env) fun l => M.bnd (mh env) fun u => sliceV x l u) :=
  peI (pe_slice sl_any ha hl hh) fun σ H Q ⟨env, α, h, z, h', g, er, e, q⟩ => by
    obtain ⟨x, h1, e1, e⟩ := bnd_some e
    obtain ⟨l, h2, e2, e⟩ := bnd_some e
    obtain ⟨u, h3, e3, e4⟩ := bnd_some e
    refine ⟨env, α, h, x, h1, g, er, e1, fun α1 H1 vx Lx p1 => ⟨env, α1, h1, l, h2, p1.good, er.later g p1.step, e2, fun α2 H2 s2 g2 => ?_⟩⟩
    have p2 := p1.later s2 g2
    refine ⟨env, α2, h2, u, h3, g2, er.later g p2.step, e3, fun α3 H3 s3 g3 => ?_⟩
    exact slice_ok (p2.later s3 g3) e4 q
theorem e_rsl {k : Nat} {p1 p2 p3 : Pos} (ha : PE X a (tM X.K B ma)) : PE X (.Subscript a (.Slice none none (some (.UnaryOp .USub (.Constant (.int 1) k p1) p2)) p3) pos) (tM X.K B fun env => M.bnd (ma env) fun x => fun h => match lstOf x h with
    | some xs => some (.tl xs.reverse, h)
    | none => none) :=
  peI (pe_revL ha) fun σ H Q ⟨env, α, h, z, h', g, er, e, q⟩ => by
    obtain ⟨x, h1, e1, e⟩ := bnd_some e
    refine ⟨env, α, h, x, h1, g, er, e1, fun α1 H1 vx Lx p1 => ?_⟩
    split at e
    · rename_i xs e2
      cases e
      obtain ⟨d, vs, M, rfl, s, z1, t, sb⟩ := lst_ok p1.good e2 p1.one
      obtain ⟨N, r, pm⟩ := t.reverse
      refine ⟨d, vs, rfl, s, fun c nc => ?_⟩
      obtain ⟨f1, f2, f3⟩ := p1.fresh_out nc
      have pt := p1.to t sb
      have pr : Psts X.K B α H α1 H1 _ xs.reverse vs.reverse N := ⟨pt.step, pt.good, r, (pm.nodup_iff).mpr pt.nd, fun a ha => pt.out a (pm.subset ha), fun a ha => pt.fr a (pm.subset ha)⟩
      exact q _ _ _ _ (pr.newList nc r (List.Sublist.refl _) (by rw [List.length_reverse]; exact z1))
    · cases e

/-! ### methods of lists -/
theorem ref_list {α0 α : List Addr} {H0 H : Hp} {h : Hs} {n : Nat} {v : V} {L : List Addr} (p : Psts K B α0 H0 α H h [.ref n] [v] L) : tyV K "list" v H := by
  have r := p.one
  cases r with
  | ref q =>
    obtain ⟨m, xs, vs, _, _, e⟩ := p.good.of_addr (List.mem_of_getElem? q)
    exact .inl ⟨rfl, vs, .inl (.inl e)⟩
theorem tl_list {α0 α : List Addr} {H0 H : Hp} {h : Hs} {xs : List PV} {v : V} {L : List Addr} (p : Psts K B α0 H0 α H h [.tl xs] [v] L) : tyV K "list" v H := by
  have r := p.one
  cases r with
  | tl e _ _ => exact .inl ⟨rfl, _, .inl (.inl e)⟩
theorem mth_list {m : Mth} {x : PV} {ys : List PV} {h : Hs} {r : PV × Hs} (e : mthV fb m x ys h = some r) {α0 α : List Addr} {H0 H : Hp} {h1 : Hs} {v : V} {L : List Addr} (p : Psts K B α0 H0 α H h1 [x] [v] L) : tyV K "list" v H := by
  unfold mthV at e
  split at e <;> first | exact ref_list p | exact tl_list p | cases e
theorem e_mth {m : Mth} {apos cpos : Pos} (hu : X.A.units + 65 < cLine) (hB : ∀ b ∈ B, b ≤ fb) (ho : PE X a (tM X.K B ma)) (ha : PA X (b :: es) (tMs X.K B ms)) (h1 : attributeBase a m.nm X.env (eval a X.env) = eval a X.env) (hl : es.length < 25) (h3 : (apos.endLine == cpos.line) = true)
    (h4 : starEach (b :: es) X.env = (false, eval b X.env) :: starEach es X.env) (h5 : (List.any (backTo cpos (starEach es X.env)) fun x => x.1) = false)
    (h2 : ((((backTo cpos (starEach (b :: es) X.env)).all fun x => !x.1) && (backToKw cpos (keywordEach [] X.env)).all fun x => x.1.isSome) && decide (((b :: es).length + ([] : List Keyword).length + if ([] : List Keyword).isEmpty then 0 else 1) < 30)) = true) :
    PE X (.Call (.Attribute a m.nm apos) (b :: es) [] cpos) (tM X.K B fun env => M.bnd (ma env) fun x => M.bnd (ms env) fun xs => mthV fb m x xs) := by
  have key : PE X (.Call (.Attribute a m.nm apos) (b :: es) [] cpos) (tBM X.K "list" (rMth X.K m) (tM X.K B ma) (tMs X.K B ms)) := by
    cases m with
    | append => exact pe_bm PySem.F.plainAttrs_list PySem.F.slot_list_append PySem.F.type_list_append (mth_rule hu .append) ho ha h1 h2 h3 h4 h5
    | pop => exact pe_bm PySem.F.plainAttrs_list PySem.F.slot_list_pop PySem.F.type_list_pop (mth_rule hu .pop) ho ha h1 h2 h3 h4 h5
    | reverse => exact pe_bm PySem.F.plainAttrs_list PySem.F.slot_list_reverse PySem.F.type_list_reverse (mth_rule hu .reverse) ho ha h1 h2 h3 h4 h5
    | extend => exact pe_bm PySem.F.plainAttrs_list PySem.F.slot_list_extend PySem.F.type_list_extend (mth_rule hu .extend) ho ha h1 h2 h3 h4 h5
    | popAt => exact pe_bm PySem.F.plainAttrs_list PySem.F.slot_list_pop PySem.F.type_list_pop (mth_rule hu .popAt) ho ha h1 h2 h3 h4 h5
    | index => exact pe_bm PySem.F.plainAttrs_list PySem.F.slot_list_index PySem.F.type_list_index (mth_rule hu .index) ho ha h1 h2 h3 h4 h5
  refine peI key fun σ H Q ⟨env, α, h, z, h', g, er, e, q⟩ => ?_
  obtain ⟨x, h1, e1, e⟩ := bnd_some e
  obtain ⟨xs, h2, e2, e3⟩ := bnd_some e
  exact ⟨env, α, h, _, h1, g, er, e1, fun α1 H1 vx Lx p1 => ⟨mth_list e3 p1, env, α1, h1, xs, h2, p1.good, er.later g p1.step, e2, fun α2 H2 vs L p2 => mth_ok hB (p1.app p2) e3 q⟩⟩
theorem e_mth0 {m : Mth} {apos cpos : Pos} (hu : X.A.units + 65 < cLine) (hB : ∀ b ∈ B, b ≤ fb) (ho : PE X a (tM X.K B ma)) (h1 : attributeBase a m.nm X.env (eval a X.env) = eval a X.env) (h3 : (apos.endLine == cpos.line) = true) :
    PE X (.Call (.Attribute a m.nm apos) [] [] cpos) (tM X.K B fun env => M.bnd (ma env) fun x => M.bnd (M.ret []) fun xs => mthV fb m x xs) := by
  have key : PE X (.Call (.Attribute a m.nm apos) [] [] cpos) (tBM0 X.K "list" (rMth X.K m) (tM X.K B ma)) := by
    cases m with
    | append => exact pe_bm0 PySem.F.plainAttrs_list PySem.F.slot_list_append PySem.F.type_list_append (mth_rule hu .append) ho h1 h3
    | pop => exact pe_bm0 PySem.F.plainAttrs_list PySem.F.slot_list_pop PySem.F.type_list_pop (mth_rule hu .pop) ho h1 h3
    | reverse => exact pe_bm0 PySem.F.plainAttrs_list PySem.F.slot_list_reverse PySem.F.type_list_reverse (mth_rule hu .reverse) ho h1 h3
    | extend => exact pe_bm0 PySem.F.plainAttrs_list PySem.F.slot_list_extend PySem.F.type_list_extend (mth_rule hu .extend) ho h1 h3
    | popAt => exact pe_bm0 PySem.F.plainAttrs_list PySem.F.slot_list_pop PySem.F.type_list_pop (mth_rule hu .popAt) ho h1 h3
    | index => exact pe_bm0 PySem.F.plainAttrs_list PySem.F.slot_list_index PySem.F.type_list_index (mth_rule hu .index) ho h1 h3
  refine peI key fun σ H Q ⟨env, α, h, z, h', g, er, e, q⟩ => ?_
  obtain ⟨x, h1, e1, e⟩ := bnd_some e
  obtain ⟨xs, h2, e2, e3⟩ := bnd_some e
  obtain ⟨rfl, rfl⟩ := ret_some e2
  exact ⟨env, α, h, _, _, g, er, e1, fun α1 H1 vx Lx p1 => ⟨mth_list e3 p1, mth_ok hB p1 e3 q⟩⟩

theorem strs_rel {K : PySem.W.Frag} : ∀ {xs : List PV} {us : List V} {L : List Addr} {bs : List Str}, PRs K α H xs us L → strsOf xs = some bs → us = bs.map V.str
  | [], _, _, _, r, e => by cases e; cases r; rfl
  | x :: xs, _, _, _, r, e => by
    obtain ⟨v, ws, M, N, rfl, rfl, r1, t⟩ := r.uncons
    unfold strsOf at e
    split at e
    · rename_i heq
      cases heq
    · rename_i b r2 heq
      cases heq
      split at e
      · rename_i bs e2
        cases e
        obtain ⟨rfl, _⟩ := r1.str_inv
        rw [strs_rel t e2]
        rfl
      · cases e
    · cases e
theorem e_join {apos cpos : Pos} (ho : PE X a (tM X.K B ma)) (hb : PE X b (tM X.K B mb)) (hs : starEach [b] X.env = [(false, eval b X.env)]) (h1 : attributeBase a "join" X.env (eval a X.env) = eval a X.env) (h3 : (apos.endLine == cpos.line) = true) :
    PE X (.Call (.Attribute a "join" apos) [b] [] cpos) (tM X.K B fun env => M.bnd (ma env) fun x => M.bnd (mb env) fun y => joinV x y) :=
  peI (pe_join ho hb hs h1 h3) fun σ H Q ⟨env, α, h, z, h', g, er, e, q⟩ => by
    obtain ⟨x, h1, e1, e⟩ := bnd_some e
    obtain ⟨y, h2, e2, e⟩ := bnd_some e
    unfold joinV at e
    split at e
    · rename_i s
      split at e
      · rename_i xs e3
        split at e
        · rename_i ys e4
          split at e
          · rename_i hz
            cases e
            refine ⟨env, α, h, _, h1, g, er, e1, fun α1 H1 vx Lx p1 => ?_⟩
            obtain ⟨rfl, _⟩ := p1.one.str_inv
            refine ⟨⟨_, rfl⟩, env, α1, h1, y, _, p1.good, er.later g p1.step, e2, fun α2 H2 vs L p2 => ?_⟩
            obtain ⟨p, ws, M, rfl, sq, z1, t, sb⟩ := seq_ok p2.good e3 p2.one
            have ev := strs_rel t e4
            subst ev
            exact ⟨_, p, ys, rfl, rfl, sq, hz, q _ _ _ _ ((p1.app p2).dat (.str _))⟩
          · cases e
        · cases e
      · cases e
    · cases e
theorem rgV_zero (j : Int) : rgV 0 j = (List.range j.toNat).map fun i => V.int ((i : Nat) : Int) := by
  unfold rgV
  rw [Int.sub_zero]
  refine List.map_congr_left fun i _ => ?_
  rw [Int.zero_add]
theorem drs_rng {K : PySem.W.Frag} {H : Hp} : ∀ l : List Nat, DRs K H (l.map fun i => D.int ((i : Nat) : Int)) (l.map fun i => V.int ((i : Nat) : Int))
  | [] => .nil
  | n :: ns => .cons (.int n) (drs_rng ns)
theorem e_lrgF {p p2 cpos : Pos} (hc : X.calm = true) (hg : Gl X "list") (hm : X.mg "list" = none) (hg2 : Gl X "range") (hm2 : X.mg "range" = none) (ha : PE X a (tM X.K B ma)) (hs : starEach [a] X.env = [(false, eval a X.env)]) :
    PE X (.Call (.Name "list" p) [.Call (.Name "range" p2) [a] [] cpos] [] pos) (tM X.K B fun env => M.bnd (ma env) fun x => lrgV false x) :=
  peI (pe_listRg hc hg hm (prg_1 hg2 hm2 ha hs) rfl) fun σ H Q ⟨env, α, h, z, h', g, er, e, q⟩ => by
    obtain ⟨x, h1, e1, e⟩ := bnd_some e
    unfold lrgV at e
    split at e
    · rename_i j
      split at e
      · rename_i hj
        cases e
        refine ⟨env, α, h, _, _, g, er, e1, fun α1 H1 vx Lx p1 => ?_⟩
        obtain ⟨rfl, _⟩ := p1.one.int_inv
        refine ⟨j, rfl, ⟨by decide, by decide, by omega, by omega, by omega⟩, fun c nc => ?_⟩
        rw [rgV_zero]
        have r : PRs X.K α1 H1 ((List.range j.toNat).map fun i => PV.d (.int ((i : Nat) : Int))) ((List.range j.toNat).map fun i => V.int ((i : Nat) : Int)) [] := by
          have := PRs.of_ds (α := α1) (drs_rng (K := X.K) (H := H1) (List.range j.toNat))
          rw [List.map_map] at this
          exact this
        exact q _ _ _ _ (p1.newList nc r (List.nil_sublist _) (by rw [List.length_map, List.length_range, sizeLine_eq]; omega))
      · cases e
    · cases e
theorem e_lrgT {p p2 cpos : Pos} (hc : X.calm = true) (hg : Gl X "tuple") (hm : X.mg "tuple" = none) (hg2 : Gl X "range") (hm2 : X.mg "range" = none) (ha : PE X a (tM X.K B ma)) (hs : starEach [a] X.env = [(false, eval a X.env)]) :
    PE X (.Call (.Name "tuple" p) [.Call (.Name "range" p2) [a] [] cpos] [] pos) (tM X.K B fun env => M.bnd (ma env) fun x => lrgV true x) :=
  peI (pe_tupRg hc hg hm (prg_1 hg2 hm2 ha hs) rfl) fun σ H Q ⟨env, α, h, z, h', g, er, e, q⟩ => by
    obtain ⟨x, h1, e1, e⟩ := bnd_some e
    unfold lrgV at e
    split at e
    · rename_i j
      split at e
      · rename_i hj
        cases e
        refine ⟨env, α, h, _, _, g, er, e1, fun α1 H1 vx Lx p1 => ?_⟩
        obtain ⟨rfl, _⟩ := p1.one.int_inv
        refine ⟨j, rfl, ⟨by decide, by decide, by omega, by omega, by omega⟩, fun c nc => ?_⟩
        rw [rgV_zero]
        have p2 := p1.fresh (o := .tup ((List.range j.toNat).map fun i => V.int ((i : Nat) : Int))) nc
        have : DR X.K (upd H1 c (.tup ((List.range j.toNat).map fun i => V.int ((i : Nat) : Int)))) (.tup ((List.range j.toNat).map fun i => D.int ((i : Nat) : Int))) (.ref c) :=
          .tup (.inl (.inl upd_same)) (by rw [List.length_map, List.length_range, sizeLine_eq]; omega) (drs_rng _)
        exact q _ _ _ _ (p2.dat this)
      · cases e
    · cases e

/-! ### range(n) as a value -/
theorem cr_range1 : CallR X (.type "range") (fun vs H Q => ∃ j, vs = [V.int j] ∧ ∀ p, H p = none → Q (.ref p) (upd H p (.rng 0 j))) := by
  intro pins s σ H vs us Q I r h
  obtain ⟨j, rfl, q⟩ := h
  obtain ⟨u, rfl, rj⟩ := vals1 r
  obtain ⟨t, rfl⟩ := rj
  refine call_range_1 ⟨.ref s.heap.objs.size, upd H s.heap.objs.size (.rng 0 j), I.laid (t' := s.toks + 1 + 1) (fun b o e => Heap.get?_push_of_some _ e) (Nat.le_refl _) ?_, rfl, q _ (I.hok.fresh (Nat.le_refl _))⟩
  exact ⟨s.toks, t, s.toks + 1, Heap.get?_push_size _ rfl⟩
theorem e_rgv {p : Pos} (hg : Gl X "range") (hm : X.mg "range" = none) (ha : PE X a (tM X.K B ma)) (hs : starEach [a] X.env = [(false, eval a X.env)]) :
    PE X (.Call (.Name "range" p) [a] [] pos) (tM X.K B fun env => M.bnd (ma env) fun x => rgvV x) :=
  peI (pe_callTy cr_range1 hg hm boot_range (pa_cons ha pa_nil hs) (by decide) (by decide) hs rfl) fun σ H Q ⟨env, α, h, z, h', g, er, e, q⟩ => by
    obtain ⟨x, h1, e1, e⟩ := bnd_some e
    unfold rgvV at e
    split at e
    · rename_i j
      split at e
      · rename_i hj
        cases e
        refine ⟨env, α, h, _, _, g, er, e1, fun α1 H1 vx Lx p1 => ?_⟩
        obtain ⟨rfl, _⟩ := p1.one.int_inv
        refine ⟨j, rfl, fun c nc => ?_⟩
        have p2 := p1.fresh (o := .rng 0 j) nc
        exact q _ _ _ _ (p2.to (PR.rg upd_same hj rfl).ones (List.nil_sublist _))
      · cases e
    · cases e

/-! ### max(xs, default=None), min(xs, default=None) -/
def rMaxD (mx : Bool) (K : PySem.W.Frag) : List V → List V → Hp → VK → Prop := fun vs zs H Q => ∃ (a : Addr) (ns : List Int), vs = [V.ref a] ∧ zs = [V.non] ∧ SqL K H a (ns.map V.int) ∧ (ns = [] → Q .non H) ∧
  ∀ m : Int, m ∈ ns → (∀ y ∈ ns, if mx then y ≤ m else m ≤ y) → Q (.int m) H
theorem cr_maxD (hc : X.calm = true) : CallRK X (.builtin "max") [Str.ofString "default"] (rMaxD true X.K) := by
  intro pins s σ H vs zs us ws Q I r rz h
  obtain ⟨a, ns, rfl, rfl, hs, q0, q1⟩ := h
  obtain ⟨its, rv, hl, _⟩ := I.list hs
  rw [Vals.ref1 r]
  obtain ⟨u, rfl, ru⟩ := vals1 rz
  cases (show u = Value.none from ru)
  have hi := rv.ints
  obtain ⟨xs, e⟩ := hi.allInts.items
  have hn : numsOf (intItems xs).toList = ns := by rw [← e]; exact hi.numsOf
  rw [nums_intItems] at hn
  subst hn
  have hl' := hl.isList
  rw [e] at hl'
  show wpAny _ _ (PySem.call (.builtin "max") [.ref a] [(Str.ofString "default", .none)]) _ _ _
  have hsz : (intItems xs).size = xs.size := by simp [intItems]
  refine call_max_walkD (iter_intList hl' fun s₂ e2 st hfp hlI => ?_)
  subst e2
  refine ⟨_, _, _, _, _, _, _, s.heap, fun i j => decide (numAt xs i > numAt xs j), rfl, (Walks.list (A := X.A.in1) (I.ok.hd hc) _ a hlI (intItems xs)).toS, st, hfp, fun b o hb hm => ?_, fun b o e => Heap.get?_push_of_some _ e, fun hz s' hm => ?_, fun hz => ⟨fun i j vi vj s Q E _ hi hj h => CmpOf.ints_gt (numAt xs) (fun _ _ => intItems_at) i j vi vj s Q E hi hj h, fun v s' hv hm => ?_⟩⟩
  · rw [List.mem_singleton.mp hm] at hb
    exact absurd (Heap.lt_size hb) (Nat.lt_irrefl _)
  · have e3 := Moved.eq_with hm
    have hk := old_kept (s := s) (l := a) hm.heap
    rw [e3]
    refine ⟨.non, H, I.kept hk, rfl, q0 ?_⟩
    rw [hsz] at hz
    rw [Array.eq_empty_of_size_eq_zero hz]
    rfl
  · have e3 := Moved.eq_with hm
    have hk := old_kept (s := s) (l := a) hm.heap
    rw [e3]
    rw [hsz] at hz hv
    obtain ⟨t, rfl⟩ := intItems_at hv
    obtain ⟨h1, h2⟩ := argBest_gt (numAt xs) (xs.size - 1)
    refine ⟨.int _, H, I.kept hk, ⟨_, rfl⟩, q1 _ ?_ fun y ha => ?_⟩
    · rw [numAt_eq]; exact PySem.getD_mem (by rw [List.length_map, Array.length_toList]; omega)
    · obtain ⟨j, hj, rfl⟩ := mem_getD ha
      rw [List.length_map, Array.length_toList] at hj
      rw [← numAt_eq]; exact h2 j (by omega)
theorem cr_minD (hc : X.calm = true) : CallRK X (.builtin "min") [Str.ofString "default"] (rMaxD false X.K) := by
  intro pins s σ H vs zs us ws Q I r rz h
  obtain ⟨a, ns, rfl, rfl, hs, q0, q1⟩ := h
  obtain ⟨its, rv, hl, _⟩ := I.list hs
  rw [Vals.ref1 r]
  obtain ⟨u, rfl, ru⟩ := vals1 rz
  cases (show u = Value.none from ru)
  have hi := rv.ints
  obtain ⟨xs, e⟩ := hi.allInts.items
  have hn : numsOf (intItems xs).toList = ns := by rw [← e]; exact hi.numsOf
  rw [nums_intItems] at hn
  subst hn
  have hl' := hl.isList
  rw [e] at hl'
  show wpAny _ _ (PySem.call (.builtin "min") [.ref a] [(Str.ofString "default", .none)]) _ _ _
  have hsz : (intItems xs).size = xs.size := by simp [intItems]
  refine call_min_walkD (iter_intList hl' fun s₂ e2 st hfp hlI => ?_)
  subst e2
  refine ⟨_, _, _, _, _, _, _, s.heap, fun i j => decide (numAt xs i < numAt xs j), rfl, (Walks.list (A := X.A.in1) (I.ok.hd hc) _ a hlI (intItems xs)).toS, st, hfp, fun b o hb hm => ?_, fun b o e => Heap.get?_push_of_some _ e, fun hz s' hm => ?_, fun hz => ⟨fun i j vi vj s Q E _ hi hj h => CmpOf.ints_lt (numAt xs) (fun _ _ => intItems_at) i j vi vj s Q E hi hj h, fun v s' hv hm => ?_⟩⟩
  · rw [List.mem_singleton.mp hm] at hb
    exact absurd (Heap.lt_size hb) (Nat.lt_irrefl _)
  · have e3 := Moved.eq_with hm
    have hk := old_kept (s := s) (l := a) hm.heap
    rw [e3]
    refine ⟨.non, H, I.kept hk, rfl, q0 ?_⟩
    rw [hsz] at hz
    rw [Array.eq_empty_of_size_eq_zero hz]
    rfl
  · have e3 := Moved.eq_with hm
    have hk := old_kept (s := s) (l := a) hm.heap
    rw [e3]
    rw [hsz] at hz hv
    obtain ⟨t, rfl⟩ := intItems_at hv
    obtain ⟨h1, h2⟩ := argBest_lt (numAt xs) (xs.size - 1)
    refine ⟨.int _, H, I.kept hk, ⟨_, rfl⟩, q1 _ ?_ fun y ha => ?_⟩
    · rw [numAt_eq]; exact PySem.getD_mem (by rw [List.length_map, Array.length_toList]; omega)
    · obtain ⟨j, hj, rfl⟩ := mem_getD ha
      rw [List.length_map, Array.length_toList] at hj
      rw [← numAt_eq]; exact h2 j (by omega)
theorem pk_non {j : Nat} {q kp : Pos} {k : Str} : PK X [⟨some k, .Constant .none j q, kp⟩] (tCons (fun _ H Q => Q .non H) tNil) := pk_cons (peI pe_non fun σ H Q h => h) pk_nil
theorem e_mxd {p kp q : Pos} {j : Nat} (mx : Bool) {x : Str} (hx : x = (if mx then "max" else "min" : Str)) (hc : X.calm = true) (hg : Gl X x) (hm : X.mg x = none) (ha : PE X a (tM X.K B ma)) (hs : starEach [a] X.env = [(false, eval a X.env)]) :
    PE X (.Call (.Name x p) [a] [⟨some (Str.ofString "default"), .Constant .none j q, kp⟩] pos) (tM X.K B fun env => M.bnd (ma env) fun x => mxdV mx x) := by
  have fin : ∀ σ H Q, tM X.K B (fun env => M.bnd (ma env) fun x => mxdV mx x) σ H Q → tCKw (rMaxD mx X.K) (tCons (tM X.K B ma) tNil) (tCons (fun _ H Q => Q .non H) tNil) σ H Q := fun σ H Q ⟨env, α, h, z, h', g, er, e, q⟩ => by
    obtain ⟨x, h1, e1, e⟩ := bnd_some e
    unfold mxdV at e
    split at e
    · rename_i ys e2
      obtain ⟨ns, e3, e4⟩ := map_some' e
      cases e4
      refine ⟨env, α, h, _, _, g, er, e1, fun α1 H1 vx Lx p1 => ?_⟩
      obtain ⟨a, vs, M2, rfl, s, z1, t, b⟩ := lst_ok p1.good e2 p1.one
      have ev := ints_rel t e3
      subst ev
      refine ⟨a, ns, rfl, rfl, s, fun hz => ?_, fun m h1 h2 => ?_⟩
      · subst hz
        exact q _ _ _ _ (p1.dat .non)
      · cases ns with
        | nil => cases h1
        | cons n ns =>
          cases mx with
          | true =>
            have : m = maxI n ns := Int.le_antisymm ((maxI_spec n ns).2 m h1) (by simpa using h2 _ (maxI_spec n ns).1)
            rw [this]
            exact q _ _ _ _ (p1.dat (.int _))
          | false =>
            have : m = minI n ns := Int.le_antisymm (by simpa using h2 _ (minI_spec n ns).1) ((minI_spec n ns).2 m h1)
            rw [this]
            exact q _ _ _ _ (p1.dat (.int _))
    · cases e
  cases mx with
  | true =>
    subst hx
    exact peI (pe_callBK (cr_maxD hc) hg hm boot_max (pa_cons ha pa_nil hs) pk_non (by decide) (by decide) (by rw [hs]; rfl) (by rw [hs]; rfl)) fin
  | false =>
    subst hx
    exact peI (pe_callBK (cr_minD hc) hg hm boot_min (pa_cons ha pa_nil hs) pk_non (by decide) (by decide) (by rw [hs]; rfl) (by rw [hs]; rfl)) fin

/-! ### sorted(set(t)) -/
/-- set(t) of a tuple or a list of whole numbers -/
theorem set_any {pins : List (Addr × Obj)} {σ : L2.St} {H1 : Hp} {s1 : Shared} {a : Addr} {ns : List Int} {E1 : Value → Shared → Prop} {Q : Value → Shared → Prop} (hc : X.calm = true) (I1 : Inv X pins σ H1 s1) (hq : SqL X.K H1 a (ns.map V.int) ∨ SqT X.K H1 a (ns.map V.int)) (hl : ns.length < 4000)
    (q : ∀ (h' : Heap) (tk c : Nat), SetR X.w h' s1.heap.objs.size (fun j => decide (j ∈ ns)) c → Inv X pins σ H1 { s1 with heap := h', toks := tk } → Q (.ref s1.heap.objs.size) { s1 with heap := h', toks := tk }) :
    wpAny (model X.prog X.w) X.A (PySem.call (Value.type "set") [Value.ref a]) Q E1 s1 := by
  rcases hq with hq | hq
  · obtain ⟨its, rv, ⟨⟨cls, dd, data, sl⟩, n, ho, hcl, hdn, hd⟩, hz⟩ := I1.list hq
    simp only at hcl hd
    have hi : IntsAre its.toArray.toList ns := ints_of_vals rv
    refine call_set_lstI ns (I1.ok.hd hc) ⟨_, ho, hcl, n, hd⟩ hi (by unfold scanBound; omega) fun s2 ⟨h', tk, c, e, R1, _, k⟩ => ?_
    subst e
    exact q h' tk c R1 (I1.kept fun b o e => k b o e)
  · obtain ⟨its, rv, pt, hz⟩ := I1.tuple hq
    have hi : IntsAre its.toArray.toList ns := ints_of_vals rv
    exact call_set_tupI ns (I1.ok.hd hc) pt hi (by unfold scanBound; omega) fun h' tk c R1 hcn k => q h' tk c R1 (I1.kept fun b o e => k b o e)
/-- sorted(set(t)), t a tuple or list of whole numbers -/
def tSset (K : PySem.W.Frag) (ta : TE) : TE := fun σ H Q => ta σ H fun x H1 => ∃ (a : Addr) (ns : List Int), x = .ref a ∧ (SqL K H1 a (ns.map V.int) ∨ SqT K H1 a (ns.map V.int)) ∧ ns.length < 4000 ∧ (∃ ms : List Int, ms.Nodup ∧ (∀ k, k ∈ ms ↔ k ∈ ns) ∧ ms.length < 60) ∧
  ∀ (ms : List Int) (p : Addr), ms.Pairwise (· < ·) → (∀ k, k ∈ ms ↔ k ∈ ns) → H1 p = none → Q (.ref p) (upd H1 p (.lst (ms.map V.int)))
theorem pe_sset {a : Expr} {ta : TE} {p p2 q pos : Pos} (hc : X.calm = true) (hg : Gl X "sorted") (hm : X.mg "sorted" = none) (hg2 : Gl X "set") (hm2 : X.mg "set" = none) (ha : PE X a ta)
    (na : starEach [a] X.env = (false, eval a X.env) :: starEach [] X.env) : PE X (.Call (.Name "sorted" p) [.Call (.Name "set" p2) [a] [] q] [] pos) (tSset X.K ta) := by
  refine ⟨fun pins s σ H Q I h => ?_⟩
  refine Call_ (ld_blt I hg hm boot_sorted ?_)
  refine PyProof.Rows.callWith_builtin1 (PyProof.Rows.args_cons ?_ rfl) rfl rfl
  refine Call_ (ld_blt I hg2 hm2 PyProof.Rows.boot_set ?_)
  refine PyProof.Rows.callWith_type1 (PyProof.Rows.args_cons (thn (ha.run pins s σ H _ I h) fun v s1 ⟨x, H1, I1, r1, q1⟩ => PyProof.Rows.args_nil ?_) na) na rfl
  obtain ⟨l, ns, rfl, hq, hl, ⟨ms0, nd0, mem0, len0⟩, q1⟩ := q1
  cases r1
  refine set_any hc I1 hq hl fun h' tk c R1 I2 => ?_
  have hcn : c < 60 := by rw [setR_card R1 nd0 mem0]; exact len0
  refine PyProof.Rows.args_nil ?_
  refine sorted_set R1 (I2.ok.hd hc) (by omega) fun s' p out c ms k2 g o hp hg3 hi2 hs hmem hlen => ?_
  have hlen2 : (ms.map V.int).length ≤ sizeLine := by rw [List.length_map, hlen, sizeLine_eq]; omega
  have hn : H1 p = none := I2.hok.fresh hp
  have J : L2.Inv X pins σ (upd H1 p (.lst (ms.map V.int))) { ({ s1 with heap := h', toks := tk } : Shared) with heap := s'.heap, gens := s'.gens, drawn := s'.drawn, toks := s'.toks } :=
    I2.call (ch := []) (Un.laid k2 hp hn) (I2.hok.laid k2 hp ⟨hlen2, out.toList, _, vals_of_ints hi2, hg3⟩) (by rw [g]; exact I2.bare) (fun _ z => nomatch z)
  have e : s' = { ({ s1 with heap := h', toks := tk } : Shared) with heap := s'.heap, gens := s'.gens, drawn := s'.drawn, toks := s'.toks } := by
    cases s'
    cases s1
    cases o
    rfl
  rw [e]
  exact ⟨.ref p, _, J, rfl, q1 ms p hs (fun k => by rw [hmem k, decide_eq_true_iff]) hn⟩
/-- len(set(t)) -/
def tLset (K : PySem.W.Frag) (ta : TE) : TE := fun σ H Q => ta σ H fun x H1 => ∃ (a : Addr) (ns : List Int), x = .ref a ∧ (SqL K H1 a (ns.map V.int) ∨ SqT K H1 a (ns.map V.int)) ∧ ns.length < 4000 ∧ ∃ ms : List Int, ms.Nodup ∧ (∀ k, k ∈ ms ↔ k ∈ ns) ∧ ms.length < 4000 ∧ Q (.int (ms.length : Nat)) H1
theorem pe_lset {a : Expr} {ta : TE} {p p2 q pos : Pos} (hc : X.calm = true) (hg : Gl X "len") (hm : X.mg "len" = none) (hg2 : Gl X "set") (hm2 : X.mg "set" = none) (ha : PE X a ta)
    (na : starEach [a] X.env = (false, eval a X.env) :: starEach [] X.env) : PE X (.Call (.Name "len" p) [.Call (.Name "set" p2) [a] [] q] [] pos) (tLset X.K ta) := by
  refine ⟨fun pins s σ H Q I h => ?_⟩
  refine Call_ (ld_blt I hg hm PySem.boot_len ?_)
  refine PyProof.Rows.callWith_builtin1 (PyProof.Rows.args_cons ?_ rfl) rfl rfl
  refine Call_ (ld_blt I hg2 hm2 PyProof.Rows.boot_set ?_)
  refine PyProof.Rows.callWith_type1 (PyProof.Rows.args_cons (thn (ha.run pins s σ H _ I h) fun v s1 ⟨x, H1, I1, r1, q1⟩ => PyProof.Rows.args_nil ?_) na) na rfl
  obtain ⟨l, ns, rfl, hq, hl, ms, nd, mem, len, q1⟩ := q1
  cases r1
  refine set_any hc I1 hq hl fun h' tk c R1 I2 => ?_
  refine PyProof.Rows.args_nil ?_
  obtain ⟨o, es, ep, t, ho, hex, hd, _, _, _, hf, hsz⟩ := R1.setOf (P := X.prog)
  have ec := setR_card R1 nd mem
  exact call_len_set ho hex hd hf (by rw [hsz, ec]; omega) ⟨.int (ms.length : Nat), H1, I2.tok _, ⟨_, by rw [hsz, ec]⟩, q1⟩
theorem mem_insU {x k : Int} : ∀ l : List Int, k ∈ insU x l ↔ k = x ∨ k ∈ l
  | [] => by simp [insU]
  | y :: ys => by
    unfold insU
    split
    · simp
    · split
      · rename_i h
        subst h
        simp
      · rw [List.mem_cons, mem_insU ys, List.mem_cons]
        constructor
        · rintro (h | h | h)
          · exact .inr (.inl h)
          · exact .inl h
          · exact .inr (.inr h)
        · rintro (h | h | h)
          · exact .inr (.inl h)
          · exact .inl h
          · exact .inr (.inr h)
theorem insU_sorted {x : Int} : ∀ l : List Int, l.Pairwise (· < ·) → (insU x l).Pairwise (· < ·)
  | [], _ => by simp [insU]
  | y :: ys, h => by
    obtain ⟨h1, h2⟩ := List.pairwise_cons.mp h
    unfold insU
    split
    · rename_i hx
      refine List.pairwise_cons.mpr ⟨fun z hz => ?_, h⟩
      rcases List.mem_cons.mp hz with e | e
      · rw [e]; exact hx
      · have := h1 z e
        omega
    · split
      · exact h
      · refine List.pairwise_cons.mpr ⟨fun z hz => ?_, insU_sorted ys h2⟩
        rcases (mem_insU ys).mp hz with e | e
        · omega
        · exact h1 z e
theorem setI_sorted : ∀ ns : List Int, (setI ns).Pairwise (· < ·)
  | [] => List.Pairwise.nil
  | n :: ns => insU_sorted _ (setI_sorted ns)
theorem mem_setI {k : Int} : ∀ ns : List Int, k ∈ setI ns ↔ k ∈ ns
  | [] => Iff.rfl
  | n :: ns => by
    show k ∈ insU n (setI ns) ↔ _
    rw [mem_insU, mem_setI ns, List.mem_cons]
theorem lt_uniq : ∀ {a b : List Int}, a.Pairwise (· < ·) → b.Pairwise (· < ·) → (∀ k, k ∈ a ↔ k ∈ b) → a = b := by
  intro a b ha hb h
  have pm : a.Perm b := (List.perm_ext_iff_of_nodup (ha.imp fun h e => absurd h (by rw [e]; exact Int.lt_irrefl _)) (hb.imp fun h e => absurd h (by rw [e]; exact Int.lt_irrefl _))).mpr h
  exact pm.eq_of_pairwise (le := fun a b : Int => a < b) (fun x y _ _ h1 h2 => absurd h1 (by omega)) ha hb
theorem e_sset {p p2 cpos : Pos} (hc : X.calm = true) (hg : Gl X "sorted") (hm : X.mg "sorted" = none) (hg2 : Gl X "set") (hm2 : X.mg "set" = none) (ha : PE X a (tM X.K B ma)) (hs : starEach [a] X.env = [(false, eval a X.env)]) :
    PE X (.Call (.Name "sorted" p) [.Call (.Name "set" p2) [a] [] cpos] [] pos) (tM X.K B fun env => M.bnd (ma env) fun x => ssetV x) :=
  peI (pe_sset hc hg hm hg2 hm2 ha hs) fun σ H Q ⟨env, α, h, z, h', g, er, e, q⟩ => by
    obtain ⟨x, h1, e1, e⟩ := bnd_some e
    unfold ssetV at e
    split at e
    · rename_i xs e2
      split at e
      · rename_i ns e3
        split at e
        · rename_i hl
          cases e
          refine ⟨env, α, h, _, _, g, er, e1, fun α1 H1 vx Lx p1 => ?_⟩
          obtain ⟨a, vs, M2, rfl, s, z1, t, b⟩ := seq_ok p1.good e2 p1.one
          have ev := ints_rel t e3
          subst ev
          refine ⟨a, ns, rfl, s, hl.1, ⟨setI ns, (setI_sorted ns).imp fun h e => absurd h (by rw [e]; exact Int.lt_irrefl _), fun k => mem_setI ns, hl.2⟩, fun ms p h1 h2 nc => ?_⟩
          have : ms = setI ns := lt_uniq h1 (setI_sorted ns) fun k => by rw [h2 k, mem_setI]
          subst this
          have eq2 : (setI ns).map (fun i => PV.d (.int i)) = ((setI ns).map D.int).map PV.d := by rw [List.map_map]; rfl
          rw [eq2] at q
          refine q _ _ _ _ (p1.newList nc (PRs.of_ds (drs_ints _)) (List.nil_sublist _) ?_)
          rw [List.length_map, List.length_map, sizeLine_eq]
          have := hl.2
          omega
        · cases e
      · cases e
    · cases e
theorem met_all : ∀ (ns acc : List Int), acc.Nodup → (ns.foldl (fun acc x => if x ∈ acc then acc else acc ++ [x]) acc).Nodup ∧ (∀ k, k ∈ ns.foldl (fun acc x => if x ∈ acc then acc else acc ++ [x]) acc ↔ k ∈ acc ∨ k ∈ ns) ∧ (ns.foldl (fun acc x => if x ∈ acc then acc else acc ++ [x]) acc).length ≤ acc.length + ns.length
  | [], acc, nd => ⟨nd, fun k => by simp, Nat.le_add_right _ _⟩
  | n :: ns, acc, nd => by
    rw [List.foldl_cons]
    by_cases h : n ∈ acc
    · rw [if_pos h]
      obtain ⟨h1, h2, h3⟩ := met_all ns acc nd
      refine ⟨h1, fun k => ?_, by simp; omega⟩
      rw [h2 k, List.mem_cons]
      constructor
      · rintro (h | h)
        · exact .inl h
        · exact .inr (.inr h)
      · rintro (h' | h' | h')
        · exact .inl h'
        · exact .inl (by rw [h']; exact h)
        · exact .inr h'
    · rw [if_neg h]
      obtain ⟨h1, h2, h3⟩ := met_all ns (acc ++ [n]) (by
        rw [List.nodup_append]
        refine ⟨nd, by simp, fun a ha b hb e => h ?_⟩
        rw [← List.mem_singleton.mp hb, ← e]
        exact ha)
      refine ⟨h1, fun k => ?_, by simp at h3 ⊢; omega⟩
      rw [h2 k, List.mem_append, List.mem_singleton, List.mem_cons]
      exact or_assoc
theorem e_lset {p p2 cpos : Pos} (hc : X.calm = true) (hg : Gl X "len") (hm : X.mg "len" = none) (hg2 : Gl X "set") (hm2 : X.mg "set" = none) (ha : PE X a (tM X.K B ma)) (hs : starEach [a] X.env = [(false, eval a X.env)]) :
    PE X (.Call (.Name "len" p) [.Call (.Name "set" p2) [a] [] cpos] [] pos) (tM X.K B fun env => M.bnd (ma env) fun x => lsetV x) :=
  peI (pe_lset hc hg hm hg2 hm2 ha hs) fun σ H Q ⟨env, α, h, z, h', g, er, e, q⟩ => by
    obtain ⟨x, h1, e1, e⟩ := bnd_some e
    unfold lsetV at e
    split at e
    · rename_i xs e2
      unfold lenS at e
      split at e
      · rename_i ns e3
        split at e
        · rename_i hl
          cases e
          refine ⟨env, α, h, _, _, g, er, e1, fun α1 H1 vx Lx p1 => ?_⟩
          obtain ⟨a, vs, M2, rfl, s, z1, t, b⟩ := seq_ok p1.good e2 p1.one
          have ev := ints_rel t e3
          subst ev
          obtain ⟨n1, n2, n3⟩ := met_all ns [] List.nodup_nil
          refine ⟨a, ns, rfl, s, by omega, met ns, n1, fun k => ?_, ?_, q _ _ _ _ (p1.dat (.int _))⟩
          · rw [show met ns = ns.foldl (fun acc x => if x ∈ acc then acc else acc ++ [x]) [] from rfl, n2 k]
            simp
          · have : (met ns).length ≤ [].length + ns.length := n3
            simp at this
            omega
        · cases e
      · cases e
    · cases e
/-! ### calls of defs -/
/-- a def's promise: what the evaluator's call says -/
def spC (K : PySem.W.Frag) (cf : List PV → M PV) (np : Nat) : Sp := fun vs H Q _ => ∃ B α0 H0 α h xs L z h', Psts K B α0 H0 α H h xs vs L ∧ xs.length = np ∧ cf xs h = some (z, h') ∧ Wnt K B α0 H0 z h' Q
theorem e_call {k : Nat} {f : Addr} {fd : FuncData} {ps : List Str} {cf : List PV → M PV} {x : Str} {p : Pos} (F : FnOk X.prog X.w X.K X.mg X.base CX0 k f fd ps (spC X.K cf ps.length)) (hr : Room k X.A) (hg : Gl X x) (hm : X.mg x = some (.ref f)) (hk : PySem.W.keepIn X.K (.ref f) = true) (hb : Binds X.K fd ps [])
    (ha : PA X (a :: es) (tMs X.K B ms)) (hd : (x == ("__debug__" : Str)) = false) (hs : starEach (a :: es) X.env = (false, eval a X.env) :: starEach es X.env) (hp : (List.any (backTo pos (starEach es X.env)) fun x => x.1) = false) (hnp : ∀ xs h r, cf xs h = some r → xs.length = ps.length) :
    PE X (.Call (.Name x p) (a :: es) [] pos) (tM X.K B fun env => M.bnd (ms env) fun xs => cf xs) :=
  peI (pe_call F hr hg hm hk hb .nil pass0 ha hd hs hp) fun σ H Q ⟨env, α, h, z, h', g, er, e, q⟩ => by
    obtain ⟨xs, h1, e1, e⟩ := bnd_some e
    refine ⟨env, α, h, xs, h1, g, er, e1, fun α1 H1 vs L p1 => ?_⟩
    show spC X.K cf ps.length (vs ++ []) H1 Q E0
    rw [List.append_nil]
    exact ⟨B, α, H, α1, h1, xs, L, z, h', p1, hnp _ _ _ e, e, q⟩
theorem e_call0 {k : Nat} {f : Addr} {fd : FuncData} {ps : List Str} {cf : List PV → M PV} {x : Str} {p : Pos} (F : FnOk X.prog X.w X.K X.mg X.base CX0 k f fd ps (spC X.K cf ps.length)) (hr : Room k X.A) (hg : Gl X x) (hm : X.mg x = some (.ref f)) (hk : PySem.W.keepIn X.K (.ref f) = true) (hb : Binds X.K fd ps [])
    (hd : (x == ("__debug__" : Str)) = false) (hnp : ∀ xs h r, cf xs h = some r → xs.length = ps.length) : PE X (.Call (.Name x p) [] [] pos) (tM X.K B fun env => M.bnd (M.ret []) fun xs => cf xs) :=
  peI (pe_call0 F hr hg hm hk hb .nil pass0 hd) fun σ H Q ⟨env, α, h, z, h', g, er, e, q⟩ => by
    obtain ⟨xs, h1, e1, e⟩ := bnd_some e
    obtain ⟨rfl, rfl⟩ := ret_some e1
    exact ⟨B, α, H, α, _, [], [], z, h', Psts.nil g, hnp _ _ _ e, e, q⟩

/-- a call whose cells stay -/
def spK (K : PySem.W.Frag) (cf : Nat → List PV → M PV) (np : Nat) : Sp := fun vs H Q _ => ∃ B fb α0 H0 α h xs L z h', (∀ b ∈ B, b ≤ fb) ∧ Psts K B α0 H0 α H h xs vs L ∧ xs.length = np ∧ cf fb xs h = some (z, h') ∧ Wnt K B α0 H0 z h' Q
theorem e_callk {k fb : Nat} {f : Addr} {fd : FuncData} {ps : List Str} {cf : Nat → List PV → M PV} {x : Str} {p : Pos} (hB : ∀ b ∈ B, b ≤ fb) (F : FnOk X.prog X.w X.K X.mg X.base CX0 k f fd ps (spK X.K cf ps.length)) (hr : Room k X.A) (hg : Gl X x) (hm : X.mg x = some (.ref f)) (hk : PySem.W.keepIn X.K (.ref f) = true) (hb : Binds X.K fd ps [])
    (ha : PA X (a :: es) (tMs X.K B ms)) (hd : (x == ("__debug__" : Str)) = false) (hs : starEach (a :: es) X.env = (false, eval a X.env) :: starEach es X.env) (hp : (List.any (backTo pos (starEach es X.env)) fun x => x.1) = false) (hnp : ∀ xs h r, cf fb xs h = some r → xs.length = ps.length) :
    PE X (.Call (.Name x p) (a :: es) [] pos) (tM X.K B fun env => M.bnd (ms env) fun xs => cf fb xs) :=
  peI (pe_call F hr hg hm hk hb .nil pass0 ha hd hs hp) fun σ H Q ⟨env, α, h, z, h', g, er, e, q⟩ => by
    obtain ⟨xs, h1, e1, e⟩ := bnd_some e
    refine ⟨env, α, h, xs, h1, g, er, e1, fun α1 H1 vs L p1 => ?_⟩
    show spK X.K cf ps.length (vs ++ []) H1 Q E0
    rw [List.append_nil]
    exact ⟨B, fb, α, H, α1, h1, xs, L, z, h', hB, p1, hnp _ _ _ e, e, q⟩

/-! ### targets -/
mutual
def T.slots : T → List Nat
  | .nm i => [i]
  | .tup ts => T.slotss ts
def T.slotss : List T → List Nat
  | [] => []
  | t :: ts => T.slots t ++ T.slotss ts
end
/-- beyond these slots nothing is changed -/
def SameBut (l : List Nat) (σ σ' : L2.St) : Prop := σ'.length = σ.length ∧ ∀ i, i ∉ l → σ'[i]? = σ[i]?
/-- more cells: out of what was owned -/
def After (α L α' : List Addr) : Prop := (∀ (n : Nat) a, α[n]? = some a → α'[n]? = some a) ∧ ∀ a ∈ α', a ∈ α ∨ a ∈ L
def tT (K : PySem.W.Frag) (B : List Nat) (tg : T) : TG := fun v σ H Q => ∃ α0 H0 α h env x L env' h', Psts K B α0 H0 α H h [x] [v] L ∧ EnvR K α H env σ ∧ bindT tg x env h = some (env', h') ∧
  ∀ α' σ', Step α0 H0 α' H → Good K B α' h' H → EnvR K α' H env' σ' → SameBut tg.slots σ σ' → After α L α' → Q σ' H
def tTs (K : PySem.W.Frag) (B : List Nat) (tgs : List T) : TGs := fun vs σ H Q => ∃ α0 H0 α h env xs L env' h', Psts K B α0 H0 α H h xs vs L ∧ EnvR K α H env σ ∧ bindTs tgs xs env h = some (env', h') ∧
  ∀ α' σ', Step α0 H0 α' H → Good K B α' h' H → EnvR K α' H env' σ' → SameBut (T.slotss tgs) σ σ' → After α L α' → Q σ' H
theorem g_nm {i : Nat} {x : Str} (hN : X.N.Nodup) (hi : X.N[i]? = some x) (hx : L2.Loc X.env.scope x) (hf : X.fn x = true ∨ X.env.scope.names.lookup x = some .local) : PG X (.Name x pos) (tT K B (.nm i)) :=
  pgI (pg_name hN hi hx hf) fun v σ H Q ⟨α0, H0, α, h, env, y, L, env', h', p, er, e, q⟩ => by
    unfold bindT at e
    split at e
    · cases e
      obtain ⟨α', p1, hix, hm⟩ := p.conv
      refine q α' _ p1.step p1.good ((er.same hix).set p1.one) ⟨by rw [List.length_set], fun j hj => ?_⟩ ⟨hix, hm⟩
      rw [List.getElem?_set_ne]
      intro z
      exact hj (by rw [z]; exact List.mem_singleton.mpr rfl)
    · cases e
theorem gs_nil : PGs X [] (tTs K B []) := pgsI pgs_nil fun vs σ H Q ⟨α0, H0, α, h, env, xs, L, env', h', p, er, e, q⟩ => by
  cases xs with
  | nil =>
    have e' : M.ret env h = some (env', h') := e
    obtain ⟨rfl, rfl⟩ := ret_some e'
    have r := p.rel
    cases r
    exact ⟨rfl, q α σ p.step p.good er ⟨rfl, fun _ _ => rfl⟩ ⟨fun _ _ e => e, fun _ h => .inl h⟩⟩
  | cons x xs => cases e
theorem gs_cons {t : T} {ts : List T} (h1 : PG X a (tT K B t)) (h2 : PGs X es (tTs K B ts)) (hs : (assignEach (a :: es) X.env).map (·.2) = assign a X.env :: (assignEach es X.env).map (·.2)) : PGs X (a :: es) (tTs K B (t :: ts)) :=
  pgsI (pgs_cons h1 h2 hs) fun vs σ H Q ⟨α0, H0, α, h, env, xs, L, env', h', p, er, e, q⟩ => by
    cases xs with
    | nil => cases e
    | cons x xs =>
      have e' : M.bnd (bindT t x env) (fun env1 => bindTs ts xs env1) h = some (env', h') := e
      obtain ⟨env1, h1, e1, e2⟩ := bnd_some e'
      obtain ⟨v, ws, M, N, rfl, rfl, r1, r2⟩ := p.rel.uncons
      obtain ⟨d1, d2, d3⟩ := List.nodup_append.mp p.nd
      refine ⟨v, ws, rfl, α0, H0, α, h, env, x, M, env1, h1, p.to r1.ones (List.sublist_append_left _ _), er, e1, fun α1 σ1 s1 g1 er1 sb1 af1 => ?_⟩
      have p1 : Psts K B α0 H0 α1 H h1 xs ws N := ⟨s1, g1, r2.same af1.1, d2, fun a ha z => by
        rcases af1.2 a z with z | z
        · exact p.out a (List.mem_append_right _ ha) z
        · exact d3 a z a ha rfl, fun a ha => p.fr a (List.mem_append_right _ ha)⟩
      refine ⟨α0, H0, α1, h1, env1, xs, N, env', h', p1, er1, e2, fun α2 σ2 s2 g2 er2 sb2 af2 => q α2 σ2 s2 g2 er2 ⟨sb2.1.trans sb1.1, fun i hi => ?_⟩ ⟨fun n a e => af2.1 n a (af1.1 n a e), fun a ha => ?_⟩⟩
      · have n1 : i ∉ t.slots := fun z => hi (List.mem_append_left _ z)
        have n2 : i ∉ T.slotss ts := fun z => hi (List.mem_append_right _ z)
        exact (sb2.2 i n2).trans (sb1.2 i n1)
      · rcases af2.2 a ha with z | z
        · exact (af1.2 a z).imp id (List.mem_append_left _)
        · exact .inr (List.mem_append_right _ z)
theorem g_tup {ts : List T} {k : Nat} (hc : X.calm = true) (h : PGs X es (tTs X.K B ts)) (hl : es.length = ts.length) (hn : (assignEach es X.env).length = es.length) (hst : (assignEach es X.env).findIdx? (·.1) = none) : PG X (.Tuple es k pos) (tT X.K B (.tup ts)) :=
  pgI (pg_tup hc h hn hst) fun v σ H Q ⟨α0, H0, α, h, env, x, L, env', h', p, er, e, q⟩ => by
    have e' : (match tupOf x with
      | some xs => bindTs ts xs env
      | none => M.no) h = some (env', h') := e
    cases e2 : tupOf x with
    | some xs =>
      rw [e2] at e'
      replace e : bindTs ts xs env h = some (env', h') := e'
      obtain ⟨a, vs, rfl, s, z, r⟩ := tup_ok e2 p.one
      have len : ∀ (ts : List T) (xs : List PV) (env : Env) (h : Hs) (r : Env × Hs), bindTs ts xs env h = some r → xs.length = ts.length := by
        intro ts
        induction ts with
        | nil => intro xs env h r e; cases xs with
          | nil => rfl
          | cons x xs => cases e
        | cons t ts ih => intro xs env h r e; cases xs with
          | nil => cases e
          | cons x xs =>
            obtain ⟨env1, h1, _, e2⟩ := bnd_some (show M.bnd (bindT t x env) (fun env1 => bindTs ts xs env1) h = some r from e)
            rw [List.length_cons, List.length_cons, ih xs env1 h1 r e2]
      have hx := len ts xs env h _ e
      exact ⟨a, vs, rfl, s, by rw [← r.length, hx, hl], α0, H0, α, h, env, xs, L, env', h', p.to r (List.Sublist.refl _), er, e, q⟩
    | none =>
      rw [e2] at e'
      cases e'
end
end Pe
/-! Pe: what is walked, comprehensions, statements. -/
namespace Pe
open PySem PySem.Spec PyProof.Rows L2 RZ

section
variable {X : Cx} {K : PySem.W.Frag} {B : List Nat} {α0 α α' : List Addr} {H0 H H' : Hp} {h h' h1 : Hs} {v x : PV} {u : V} {L M : List Addr} {xs : List PV}
/-! ### sources -/
def SrcL (K : PySem.W.Frag) (B : List Nat) (s : Src) (α : List Addr) (H : Hp) (a : Addr) : Prop := ∀ α' H' h', Step α H α' H' → Good K B α' h' H' → ∀ xs, s.items h' = some xs → ∃ vs, SqL K H' a vs ∧ PRs K α' H' xs vs []
def SrcT (K : PySem.W.Frag) (B : List Nat) (s : Src) (α : List Addr) (H : Hp) (a : Addr) : Prop := ∀ α' H' h', Step α H α' H' → Good K B α' h' H' → ∀ xs, s.items h' = some xs → ∃ vs, SqT K H' a vs ∧ PRs K α' H' xs vs []
theorem cell_some {n : Nat} {h : Hs} {xs : List PV} (e : (Src.cell n).items h = some xs) : h[n]? = some (.lst xs) := by
  have e' : (match h[n]? with
    | some (.lst xs) => some xs
    | none => none) = some xs := e
  cases q : h[n]? with
  | none =>
    rw [q] at e'
    cases e'
  | some c =>
    rw [q] at e'
    cases c with
    | lst ys => cases e'; rfl
theorem cell_of {n : Nat} {h : Hs} {xs : List PV} (e : h[n]? = some (.lst xs)) : (Src.cell n).items h = some xs := by
  show (match h[n]? with
    | some (.lst xs) => some xs
    | none => none) = some xs
  rw [e]
theorem src_cell {n : Nat} {a : Addr} (e : α[n]? = some a) : SrcL K B (.cell n) α H a := fun α' H' h' s g xs ex => by
  obtain ⟨vs, e1, _, r⟩ := g.cell n _ a (cell_some ex) (s.ix n a e)
  exact ⟨vs, .inl (.inl e1), r⟩
theorem cell_items (g : Good K B α h H) {n : Nat} {a : Addr} (e : α[n]? = some a) : ∃ xs, (Src.cell n).items h = some xs := by
  have hn : n < h.length := by rw [← g.len]; exact (List.getElem?_eq_some_iff.mp e).1
  have e2 : h[n]? = some h[n] := List.getElem?_eq_getElem hn
  cases q : h[n] with
  | lst xs =>
    rw [q] at e2
    exact ⟨xs, cell_of e2⟩
theorem items_imm {xs ys : List PV} {h : Hs} (e : (Src.imm xs).items h = some ys) : ys = xs := by
  cases e
  rfl
theorem src0_ok {s : Src} (p : Psts K B α0 H0 α H h [v] [u] L) (e : srcOf0 v = some s) :
    ∃ a, u = .ref a ∧ (∃ xs, s.items h = some xs) ∧ ((SrcL K B s α H a ∧ (tupOf v).isSome = false) ∨ (SrcT K B s α H a ∧ (tupOf v).isSome = true)) := by
  have r := p.one
  unfold srcOf0 at e
  split at e
  · cases e
    cases r with
    | ref q => exact ⟨_, rfl, cell_items p.good q, .inl ⟨src_cell q, rfl⟩⟩
  · rename_i xs
    split at e
    · rename_i ds q
      cases e
      have ed := allD_some q
      cases r with
      | @tl a vs _ L' ha z r =>
        subst ed
        obtain ⟨rd, rfl⟩ := r.to_ds
        refine ⟨a, rfl, ⟨_, rfl⟩, .inl ⟨fun α' H' h' st g ys ey => ?_, rfl⟩⟩
        have := items_imm ey
        subst this
        exact ⟨vs, .inl (.inl (st.keep _ _ ha (p.out a List.mem_cons_self))), PRs.of_ds (DRs.keep (p.good.kept st) _ _ rd)⟩
    · cases e
  · cases e
    cases r with
    | @fl a vs _ ha z rd =>
      refine ⟨a, rfl, ⟨_, rfl⟩, .inl ⟨fun α' H' h' st g ys ey => ?_, rfl⟩⟩
      have := items_imm ey
      subst this
      exact ⟨vs, (ha.keep' fun _ _ e => (p.good.kept st).frz e).sql, PRs.of_ds (DRs.keep (p.good.kept st) _ _ rd)⟩
  · cases e
    obtain ⟨a, vs, rfl, rfl, hq, z, rd⟩ := r.tup_inv
    refine ⟨a, rfl, ⟨_, rfl⟩, .inr ⟨fun α' H' h' st g ys ey => ?_, rfl⟩⟩
    have := items_imm ey
    subst this
    exact ⟨vs, (p.good.kept st).sqt hq, PRs.of_ds (DRs.keep (p.good.kept st) _ _ rd)⟩
  · cases e
theorem srcOf_ok {s : Src} (p : Psts K B α0 H0 α H h [v] [u] L) (e : srcOf v h = some (s, h1)) :
    ∃ α1 a, u = .ref a ∧ Step α0 H0 α1 H ∧ Good K B α1 h1 H ∧ After α L α1 ∧ (∃ xs, s.items h1 = some xs) ∧ ((SrcL K B s α1 H a ∧ (tupOf v).isSome = false) ∨ (SrcT K B s α1 H a ∧ (tupOf v).isSome = true)) := by
  unfold srcOf at e
  cases q0 : srcOf0 v with
  | some s0 =>
    rw [q0] at e
    cases e
    obtain ⟨a, e1, e2, e3⟩ := src0_ok p q0
    exact ⟨α, a, e1, p.step, p.good, ⟨fun _ _ e => e, fun _ h => .inl h⟩, e2, e3⟩
  | none =>
    rw [q0] at e
    dsimp only at e
    have r := p.one
    split at e
    · rename_i xs
      cases e
      obtain ⟨α1, p1, hix, hm⟩ := p.conv
      have r1 : PR K α1 H (.ref (convs xs h).2.length) u [] := p1.one
      have g1 : Good K B α1 ((convs xs h).2 ++ [.lst (convs xs h).1]) H := p1.good
      cases r1 with
      | ref q1 => exact ⟨α1, _, rfl, p1.step, g1, ⟨hix, hm⟩, cell_items g1 q1, .inl ⟨src_cell q1, rfl⟩⟩
    · rename_i xs
      cases e
      cases r with
      | @mt a vs _ _ hq z r =>
        obtain ⟨α1, p1, hix, hm⟩ := (p.to r (List.Sublist.refl _)).convs
        refine ⟨α1, a, rfl, p1.step, p1.good, ⟨hix, hm⟩, ⟨_, rfl⟩, .inr ⟨fun α' H' h' st g ys ey => ?_, rfl⟩⟩
        have := items_imm ey
        subst this
        exact ⟨vs, (p1.good.kept st).sqt hq, PRs.keep (p1.good.kept st) st.ix _ _ _ p1.rel fun _ z => absurd z List.not_mem_nil⟩
    · cases e
theorem SrcL.later {s : Src} {a : Addr} (w : SrcL K B s α H a) (st : Step α H α' H') : SrcL K B s α' H' a := fun α2 H2 h2 s2 g2 => w α2 H2 h2 (st.trans s2) g2
theorem SrcT.later {s : Src} {a : Addr} (w : SrcT K B s α H a) (st : Step α H α' H') : SrcT K B s α' H' a := fun α2 H2 h2 s2 g2 => w α2 H2 h2 (st.trans s2) g2

/-! ### walks -/
def Walk (K : PySem.W.Frag) (B : List Nat) (it : ItV) (α : List Addr) (H : Hp) (J : L2.It) : Prop := ∀ α' H' h', Step α H α' H' → Good K B α' h' H' → ∀ i,
  (it.at h' i = some none → J.stop i H') ∧ ∀ x, it.at h' i = some (some x) → J.go i H' ∧ ∀ v H2, J.yld i H' v H2 → Kept (fun _ => False) H' H2 ∧ PR K α' H2 x v []
theorem Kept.refl : Kept (fun _ => False) H H := ⟨fun _ z => z.elim, fun _ _ e _ => e⟩
theorem getElem?_none_le {α : Type} {xs : List α} {i : Nat} (e : xs[i]? = none) : xs.length ≤ i := List.getElem?_eq_none_iff.mp e
theorem walk_list {s : Src} {a : Addr} (w : SrcL K B s α H a) : Walk K B (.seq s) α H (Itl K a) := fun α' H' h' st g i => by
  refine ⟨fun e => ?_, fun x e => ?_⟩
  · obtain ⟨xs, e1, e2⟩ := map_some' e
    obtain ⟨vs, q, r⟩ := w α' H' h' st g xs e1
    exact ⟨vs, q, by rw [← r.length]; exact getElem?_none_le e2⟩
  · obtain ⟨xs, e1, e2⟩ := map_some' e
    obtain ⟨vs, q, r⟩ := w α' H' h' st g xs e1
    obtain ⟨v, M, e3, rx, sb⟩ := r.get e2
    have := List.sublist_nil.mp sb
    subst this
    refine ⟨⟨vs, v, q, e3⟩, fun v' H2 y => ?_⟩
    obtain ⟨rfl, y⟩ := y
    have := y vs q
    rw [e3] at this
    cases this
    exact ⟨.refl, rx⟩
theorem walk_tup {s : Src} {a : Addr} (w : SrcT K B s α H a) : Walk K B (.seq s) α H (Itt K a) := fun α' H' h' st g i => by
  refine ⟨fun e => ?_, fun x e => ?_⟩
  · obtain ⟨xs, e1, e2⟩ := map_some' e
    obtain ⟨vs, q, r⟩ := w α' H' h' st g xs e1
    exact ⟨vs, q, by rw [← r.length]; exact getElem?_none_le e2⟩
  · obtain ⟨xs, e1, e2⟩ := map_some' e
    obtain ⟨vs, q, r⟩ := w α' H' h' st g xs e1
    obtain ⟨v, M, e3, rx, sb⟩ := r.get e2
    have := List.sublist_nil.mp sb
    subst this
    refine ⟨⟨vs, v, q, e3⟩, fun v' H2 y => ?_⟩
    obtain ⟨rfl, y⟩ := y
    have := y vs q
    rw [e3] at this
    cases this
    exact ⟨.refl, rx⟩
theorem at_rng {lo : Int} {n i : Nat} {h : Hs} : (ItV.rng lo n).at h i = some (if i < n then some (.d (.int (lo + i))) else none) := rfl
theorem walk_rng {lo : Int} {n : Nat} : Walk K B (.rng lo n) α H (Itr lo n) := fun α' H' h' st g i => by
  rw [at_rng]
  by_cases hi : i < n
  · rw [if_pos hi]
    refine ⟨fun e => (nomatch (Option.some.inj e)), fun x e => ⟨hi, fun v H2 y => ?_⟩⟩
    obtain ⟨rfl, rfl⟩ := y
    have ex := Option.some.inj (Option.some.inj e)
    subst ex
    exact ⟨.refl, .d (.int _)⟩
  · rw [if_neg hi]
    exact ⟨fun _ => Nat.le_of_not_lt hi, fun x e => (nomatch (Option.some.inj e))⟩
/-- a new pair -/
theorem pair_rel {T : Addr} {x y : PV} {u w : V} (n : H T = none) (r1 : PR K α H x u []) (r2 : PR K α H y w []) : Kept (fun _ => False) H (upd H T (.tup [u, w])) ∧ PR K α (upd H T (.tup [u, w])) (mkTup [x, y]) (.ref T) [] := by
  have k := Kept.fresh (o := .tup [u, w]) n
  refine ⟨k, mkTup_rel (us := [u, w]) (.inl (.inl upd_same)) (by show 2 ≤ sizeLine; decide) ?_⟩
  have ix : ∀ (n : Nat) a, α[n]? = some a → α[n]? = some a := fun _ _ e => e
  exact .cons (L := []) (PR.keep k ix _ _ _ r1 fun _ _ z => z) (.cons (L := []) (PR.keep k ix _ _ _ r2 fun _ _ z => z) .nil)
theorem walk_enum {s : Src} {a : Addr} (w : SrcL K B s α H a) : Walk K B (.enum s) α H (Ite K a) := fun α' H' h' st g i => by
  refine ⟨fun e => ?_, fun x e => ?_⟩
  · obtain ⟨xs, e1, e2⟩ := map_some' e
    obtain ⟨vs, q, r⟩ := w α' H' h' st g xs e1
    exact ⟨vs, q, by rw [← r.length]; exact getElem?_none_le (Option.map_eq_none_iff.mp e2)⟩
  · obtain ⟨xs, e1, e2⟩ := map_some' e
    obtain ⟨vs, q, r⟩ := w α' H' h' st g xs e1
    obtain ⟨y, e4, e5⟩ := map_some' e2
    obtain ⟨v, M, e3, rx, sb⟩ := r.get e4
    have := List.sublist_nil.mp sb
    subst this e5
    refine ⟨⟨vs, v, q, e3⟩, fun v' H2 yl => ?_⟩
    obtain ⟨T, z, rfl, nT, rfl, yl⟩ := yl
    have := yl vs q
    rw [e3] at this
    cases this
    exact pair_rel nT (.d (.int _)) rx
def zipAt (xs ys : List PV) (i : Nat) : Option PV := match xs[i]?, ys[i]? with
  | some x, some y => some (mkTup [x, y])
  | _, _ => none
theorem at_zip {s t : Src} {h : Hs} {xs ys : List PV} {i : Nat} (e1 : s.items h = some xs) (e2 : t.items h = some ys) : (ItV.zip s t).at h i = some (zipAt xs ys i) := by
  show (match s.items h, t.items h with
    | some xs, some ys => some (zipAt xs ys i)
    | _, _ => none) = _
  rw [e1, e2]
theorem at_zipN {s t : Src} {h : Hs} {i : Nat} (e : s.items h = none ∨ t.items h = none) : (ItV.zip s t).at h i = none := by
  show (match s.items h, t.items h with
    | some xs, some ys => some (zipAt xs ys i)
    | _, _ => none) = _
  rcases e with e | e
  · rw [e]
  · rw [e]
    cases s.items h <;> rfl
theorem walk_zip {s t : Src} {a b : Addr} (w : SrcL K B s α H a) (w2 : SrcL K B t α H b) : Walk K B (.zip s t) α H (Itz K a b) := fun α' H' h' st g i => by
  cases e1 : s.items h' with
  | none => exact ⟨fun e => absurd e (by rw [at_zipN (.inl e1)]; exact fun z => nomatch z), fun x e => absurd e (by rw [at_zipN (.inl e1)]; exact fun z => nomatch z)⟩
  | some xs =>
    cases e2 : t.items h' with
    | none => exact ⟨fun e => absurd e (by rw [at_zipN (.inr e2)]; exact fun z => nomatch z), fun x e => absurd e (by rw [at_zipN (.inr e2)]; exact fun z => nomatch z)⟩
    | some ys =>
      obtain ⟨vs, q, r⟩ := w α' H' h' st g xs e1
      obtain ⟨us, q2, r2⟩ := w2 α' H' h' st g ys e2
      rw [at_zip e1 e2]
      unfold zipAt
      cases e3 : xs[i]? with
      | none => exact ⟨fun _ => ⟨vs, us, q, q2, .inl (by rw [← r.length]; exact getElem?_none_le e3)⟩, fun x e => (nomatch (Option.some.inj e))⟩
      | some x =>
        cases e4 : ys[i]? with
        | none => exact ⟨fun _ => ⟨vs, us, q, q2, .inr (by rw [← r2.length]; exact getElem?_none_le e4)⟩, fun x e => (nomatch (Option.some.inj e))⟩
        | some y =>
          refine ⟨fun e => (nomatch (Option.some.inj e)), fun z e => ?_⟩
          have ez := Option.some.inj (Option.some.inj e)
          subst ez
          obtain ⟨v, M, e5, rx, sb⟩ := r.get e3
          obtain ⟨u, N, e6, ry, sb2⟩ := r2.get e4
          have n1 := List.sublist_nil.mp sb
          have n2 := List.sublist_nil.mp sb2
          subst n1 n2
          refine ⟨⟨vs, us, v, u, q, q2, e5, e6⟩, fun v' H2 yl => ?_⟩
          obtain ⟨T, c, d, rfl, nT, rfl, y1, y2⟩ := yl
          have h1 := Option.some.inj ((y1 vs q).symm.trans e5)
          have h2 := Option.some.inj ((y2 us q2).symm.trans e6)
          subst h1 h2
          exact pair_rel nT rx ry
theorem walk_zipT {s t : Src} {a b : Addr} (w : SrcT K B s α H a) (w2 : SrcT K B t α H b) : Walk K B (.zip s t) α H (ItzT K a b) := fun α' H' h' st g i => by
  cases e1 : s.items h' with
  | none => exact ⟨fun e => absurd e (by rw [at_zipN (.inl e1)]; exact fun z => nomatch z), fun x e => absurd e (by rw [at_zipN (.inl e1)]; exact fun z => nomatch z)⟩
  | some xs =>
    cases e2 : t.items h' with
    | none => exact ⟨fun e => absurd e (by rw [at_zipN (.inr e2)]; exact fun z => nomatch z), fun x e => absurd e (by rw [at_zipN (.inr e2)]; exact fun z => nomatch z)⟩
    | some ys =>
      obtain ⟨vs, q, r⟩ := w α' H' h' st g xs e1
      obtain ⟨us, q2, r2⟩ := w2 α' H' h' st g ys e2
      rw [at_zip e1 e2]
      unfold zipAt
      cases e3 : xs[i]? with
      | none => exact ⟨fun _ => ⟨vs, us, q, q2, .inl (by rw [← r.length]; exact getElem?_none_le e3)⟩, fun x e => (nomatch (Option.some.inj e))⟩
      | some x =>
        cases e4 : ys[i]? with
        | none => exact ⟨fun _ => ⟨vs, us, q, q2, .inr (by rw [← r2.length]; exact getElem?_none_le e4)⟩, fun x e => (nomatch (Option.some.inj e))⟩
        | some y =>
          refine ⟨fun e => (nomatch (Option.some.inj e)), fun z e => ?_⟩
          have ez := Option.some.inj (Option.some.inj e)
          subst ez
          obtain ⟨v, M, e5, rx, sb⟩ := r.get e3
          obtain ⟨u, N, e6, ry, sb2⟩ := r2.get e4
          have n1 := List.sublist_nil.mp sb
          have n2 := List.sublist_nil.mp sb2
          subst n1 n2
          refine ⟨⟨vs, us, v, u, q, q2, e5, e6⟩, fun v' H2 yl => ?_⟩
          obtain ⟨T, c, d, rfl, nT, rfl, y1, y2⟩ := yl
          have h1 := Option.some.inj ((y1 vs q).symm.trans e5)
          have h2 := Option.some.inj ((y2 us q2).symm.trans e6)
          subst h1 h2
          exact pair_rel nT rx ry
end

def tIt (K : PySem.W.Frag) (B : List Nat) (m : Env → M ItV) : TI := fun σ H R => ∃ env α h it h', Good K B α h H ∧ EnvR K α H env σ ∧ m env h = some (it, h') ∧ ∀ α' H' J, Step α H α' H' → Good K B α' h' H' → Walk K B it α' H' J → R J H'
section
variable {X : Cx} {K : PySem.W.Frag} {B : List Nat} {fb : Nat} {a b c tg : Expr} {ma mb mc : Env → M PV} {pos : Pos}
def iRgv (tl : TE) : TI := fun σ H R => tl σ H fun x H1 => ∃ a hi, x = .ref a ∧ H1 a = some (.rng 0 hi) ∧ -(2 ^ 62) ≤ hi ∧ hi < 2 ^ 62 ∧ R (Itr 0 hi.toNat) H1
/-- a range that lies in a variable -/
theorem pi_rgv {l : Expr} {tl : TE} (hl : PE X l tl) : PI X tg l (iRgv tl) := by
  refine ⟨fun pins s σ H R I h => ?_⟩
  refine thn (hl.run pins s σ H _ I h) fun v s1 ⟨x, H1, I1, r1, q1⟩ => ?_
  obtain ⟨a, hi, e, hq, b1, b2, q⟩ := q1
  subst e
  cases r1
  obtain ⟨t, u, w, ho⟩ := I1.hok a _ hq
  refine wpAny_pyIter_range (ho : IsRange s1.heap a 0 hi 1 t u w) (small_one (by decide) (by decide) b1 b2) ?_
  refine ⟨s1.heap.objs.size, [s1.heap.objs.size], _, _, H1, rfl, I1.kept (t' := s1.toks) fun b o e => Heap.get?_push_of_some _ e, turn_range _ 0 hi.toNat, ?_, fun b hb => ?_, q⟩
  · have e1 : (0 : Int) + ((0 : Nat) : Int) * 1 = 0 := by simp
    have e2 : ((hi.toNat : Nat) : Int) - ((0 : Nat) : Int) = Builtin.Range.rangeSize 0 hi 1 := by rw [rangeSize_one]; split <;> omega
    show IsRangeIter _ _ ((0 : Int) + ((0 : Nat) : Int) * 1) (((hi.toNat : Nat) : Int) - ((0 : Nat) : Int)) 1
    rw [e1, e2]
    exact Heap.get?_push_size _ rfl
  · have e : b = s1.heap.objs.size := by simpa using hb
    subst e
    exact I1.fpOk (Nat.le_refl _) (I1.hok.fresh (Nat.le_refl _))
def mSeq (ma : Env → M PV) : Env → M ItV := fun env => M.bnd (ma env) fun v => seqM v
theorem seqM_no {v : PV} (nr : isRg v = false) : seqM v = M.bnd (srcOf v) fun s => M.ret (.seq s) := by
  cases v <;> first | rfl | cases nr
theorem i_seq (ha : PE X a (tM X.K B ma)) : PI X tg a (tIt X.K B (mSeq ma)) :=
  piI (piOr (piOr (pi_list ha) (pi_tup ha)) (pi_rgv ha)) fun σ H R ⟨env, α, h, it, h', g, er, e, q⟩ => by
    obtain ⟨v, h1, e1, e⟩ := bnd_some e
    cases nr : isRg v with
    | true =>
      cases v with
      | rg n =>
        obtain ⟨rfl, rfl⟩ := ret_some e
        refine .inr ⟨env, α, h, _, _, g, er, e1, fun α1 H1 u L p1 => ?_⟩
        have r := p1.one
        cases r with
        | rg hq hb he =>
          subst he
          exact ⟨_, _, rfl, hq, hb.1, hb.2, q α1 H1 _ p1.step p1.good walk_rng⟩
      | fd es =>
        obtain ⟨s, h2, e2, e3⟩ := bnd_some (show M.bnd (srcOf (.fd es)) (fun s => M.ret (.seq s)) h1 = some (it, h') from e)
        cases e2
      | _ => cases nr
    | false =>
    rw [seqM_no nr] at e
    obtain ⟨s, h2, e2, e3⟩ := bnd_some e
    obtain ⟨rfl, rfl⟩ := ret_some e3
    refine .inl ?_
    cases k : (tupOf v).isSome with
    | false =>
      refine .inl ⟨env, α, h, v, h1, g, er, e1, fun α1 H1 u L p1 => ?_⟩
      obtain ⟨α2, ad, rfl, s2, g2, _, ⟨xs, ex⟩, w⟩ := srcOf_ok p1 e2
      rcases w with ⟨w, _⟩ | ⟨_, z⟩
      · obtain ⟨vs, sq, _⟩ := w α2 H1 _ .refl g2 xs ex
        exact ⟨ad, rfl, ⟨vs, sq⟩, q α2 H1 _ s2 g2 (walk_list w)⟩
      · rw [k] at z
        cases z
    | true =>
      refine .inr ⟨env, α, h, v, h1, g, er, e1, fun α1 H1 u L p1 => ?_⟩
      obtain ⟨α2, ad, rfl, s2, g2, _, ⟨xs, ex⟩, w⟩ := srcOf_ok p1 e2
      rcases w with ⟨_, z⟩ | ⟨w, _⟩
      · rw [k] at z
        cases z
      · obtain ⟨vs, sq, _⟩ := w α2 H1 _ .refl g2 xs ex
        exact ⟨ad, rfl, ⟨vs, sq⟩, q α2 H1 _ s2 g2 (walk_tup w)⟩
def mArg1 (ma : Env → M PV) : Env → M (List PV) := fun env => M.bnd (ma env) fun x => M.bnd (M.ret []) fun xs => M.ret (x :: xs)
def mArg2 (ma mb : Env → M PV) : Env → M (List PV) := fun env => M.bnd (ma env) fun x => M.bnd (mArg1 mb env) fun xs => M.ret (x :: xs)
theorem arg1_eq {env : Env} {h h1 : Hs} {v : PV} (e : ma env h = some (v, h1)) : mArg1 ma env h = some ([v], h1) := by
  unfold mArg1 M.bnd
  rw [e]
  rfl
theorem arg2_eq {env : Env} {h h1 h2 : Hs} {v w : PV} (e : ma env h = some (v, h1)) (e2 : mb env h1 = some (w, h2)) : mArg2 ma mb env h = some ([v, w], h2) := by
  unfold mArg2 M.bnd
  rw [e]
  dsimp only
  rw [arg1_eq e2]
  rfl
def mRng1 (ma : Env → M PV) : Env → M ItV := fun env => M.bnd (ma env) fun v => match v with
  | .d (.int j) => rngV 0 j
  | _ => M.no
def mRng2 (ma mb : Env → M PV) : Env → M ItV := fun env => M.bnd (ma env) fun v => M.bnd (mb env) fun w => match v, w with
  | .d (.int i), .d (.int j) => rngV i j
  | _, _ => M.no
theorem rngV_some {lo hi : Int} {h h' : Hs} {it : ItV} (e : rngV lo hi h = some (it, h')) : (-(2 ^ 62) ≤ lo ∧ lo < 2 ^ 62 ∧ -(2 ^ 62) ≤ hi ∧ hi < 2 ^ 62) ∧ it = .rng lo (hi - lo).toNat ∧ h' = h := by
  unfold rngV at e
  split at e
  · rename_i hb
    cases e
    exact ⟨hb, rfl, rfl⟩
  · cases e
theorem rng1_inv {v : PV} {h : Hs} {r : ItV × Hs} (e : (match v with
  | .d (.int j) => rngV 0 j
  | _ => M.no) h = some r) : ∃ j, v = .d (.int j) ∧ rngV 0 j h = some r := by
  split at e
  · exact ⟨_, rfl, e⟩
  · cases e
theorem rng2_inv {v w : PV} {h : Hs} {r : ItV × Hs} (e : (match v, w with
  | .d (.int i), .d (.int j) => rngV i j
  | _, _ => M.no) h = some r) : ∃ i j, v = .d (.int i) ∧ w = .d (.int j) ∧ rngV i j h = some r := by
  split at e
  · exact ⟨_, _, rfl, rfl, e⟩
  · cases e
theorem i_rng1 {p : Pos} (hg : Gl X "range") (hm : X.mg "range" = none) (ha : PA X [a] (tMs X.K B (mArg1 ma))) (hs : starEach [a] X.env = [(false, eval a X.env)]) : PI X tg (.Call (.Name "range" p) [a] [] pos) (tIt X.K B (mRng1 ma)) :=
  piI (pi_range1 hg hm ha hs) fun σ H R ⟨env, α, h, it, h', g, er, e, q⟩ => by
    obtain ⟨v, h1, e1, e⟩ := bnd_some e
    obtain ⟨j, rfl, e⟩ := rng1_inv e
    obtain ⟨⟨b1, b2, b3, b4⟩, rfl, rfl⟩ := rngV_some e
    refine ⟨env, α, h, [.d (.int j)], _, g, er, arg1_eq e1, fun α1 H1 vs L p1 => ?_⟩
    obtain ⟨v, ws, M, N, rfl, rfl, r1, r2⟩ := p1.rel.uncons
    cases r2
    obtain ⟨rfl, _⟩ := r1.int_inv
    refine ⟨j, rfl, b3, b4, q α1 H1 _ p1.step p1.good ?_⟩
    rw [Int.sub_zero]
    exact walk_rng
theorem i_rng2 {p : Pos} (hg : Gl X "range") (hm : X.mg "range" = none) (ha : PA X [a, b] (tMs X.K B (mArg2 ma mb))) (hs : starEach [a, b] X.env = [(false, eval a X.env), (false, eval b X.env)]) (hs2 : starEach [b] X.env = [(false, eval b X.env)]) : PI X tg (.Call (.Name "range" p) [a, b] [] pos) (tIt X.K B (mRng2 ma mb)) :=
  piI (pi_range2 hg hm ha hs hs2) fun σ H R ⟨env, α, h, it, h', g, er, e, q⟩ => by
    obtain ⟨v, h1, e1, e⟩ := bnd_some e
    obtain ⟨w, h2, e2, e⟩ := bnd_some e
    obtain ⟨i, j, rfl, rfl, e⟩ := rng2_inv e
    obtain ⟨bd, rfl, rfl⟩ := rngV_some e
    refine ⟨env, α, h, [.d (.int i), .d (.int j)], _, g, er, arg2_eq e1 e2, fun α1 H1 vs L p1 => ?_⟩
    obtain ⟨u, w, M, N, rfl, rfl, r1, r2⟩ := p1.rel.two
    obtain ⟨rfl, _⟩ := r1.int_inv
    obtain ⟨rfl, _⟩ := r2.int_inv
    exact ⟨i, j, rfl, bd, q α1 H1 _ p1.step p1.good walk_rng⟩
def mArg3 (ma mb mc : Env → M PV) : Env → M (List PV) := fun env => M.bnd (ma env) fun x => M.bnd (mArg2 mb mc env) fun xs => M.ret (x :: xs)
theorem arg3_eq {env : Env} {h h1 h2 h3 : Hs} {v w u : PV} (e : ma env h = some (v, h1)) (e2 : mb env h1 = some (w, h2)) (e3 : mc env h2 = some (u, h3)) : mArg3 ma mb mc env h = some ([v, w, u], h3) := by
  unfold mArg3 M.bnd
  rw [e]
  dsimp only
  rw [arg2_eq e2 e3]
  rfl
def mRngd (ma mb : Env → M PV) : Env → M ItV := fun env => M.bnd (ma env) fun v => M.bnd (mb env) fun w => match v, w with
  | .d (.int i), .d (.int j) => rngdV i j
  | _, _ => M.no
theorem rngd_inv {v w : PV} {h : Hs} {r : ItV × Hs} (e : (match v, w with
  | .d (.int i), .d (.int j) => rngdV i j
  | _, _ => M.no) h = some r) : ∃ i j, v = .d (.int i) ∧ w = .d (.int j) ∧ rngdV i j h = some r := by
  split at e
  · exact ⟨_, _, rfl, rfl, e⟩
  · cases e
theorem rngdV_some {lo hi : Int} {h h' : Hs} {it : ItV} (e : rngdV lo hi h = some (it, h')) : (-(2 ^ 62) ≤ lo ∧ lo < 2 ^ 62 ∧ -(2 ^ 62) ≤ hi ∧ hi < 2 ^ 62) ∧ it = .rngd lo (lo - hi).toNat ∧ h' = h := by
  unfold rngdV at e
  split at e
  · rename_i hb
    cases e
    exact ⟨hb, rfl, rfl⟩
  · cases e
theorem walk_rngd {α : List Addr} {H : Hp} {lo : Int} {n : Nat} : Walk K B (.rngd lo n) α H (Itc lo (-1) n) := fun α' H' h' st g i => by
  show (some (if i < n then some (PV.d (.int (lo - i))) else none) = some none → _) ∧ ∀ x, some (if i < n then some (PV.d (.int (lo - i))) else none) = some (some x) → _
  by_cases hi : i < n
  · rw [if_pos hi]
    refine ⟨fun e => (nomatch (Option.some.inj e)), fun x e => ⟨hi, fun v H2 y => ?_⟩⟩
    obtain ⟨rfl, rfl⟩ := y
    have ex := Option.some.inj (Option.some.inj e)
    subst ex
    rw [show lo + ((i : Nat) : Int) * (-1) = lo - i by omega]
    exact ⟨.refl, .d (.int _)⟩
  · rw [if_neg hi]
    exact ⟨fun _ => Nat.le_of_not_lt hi, fun x e => (nomatch (Option.some.inj e))⟩
theorem i_rngd {p : Pos} (hg : Gl X "range") (hm : X.mg "range" = none) (ha : PA X [a, b, c] (tMs X.K B (mArg3 ma mb fun _ => M.ret (.d (.int (-1)))))) (hs : starEach [a, b, c] X.env = (false, eval a X.env) :: starEach [b, c] X.env) (hpl : (backTo pos (starEach [b, c] X.env)).any (·.1) = false) : PI X tg (.Call (.Name "range" p) [a, b, c] [] pos) (tIt X.K B (mRngd ma mb)) :=
  piI (pi_range3 hg hm ha hs hpl) fun σ H R ⟨env, α, h, it, h', g, er, e, q⟩ => by
    obtain ⟨v, h1, e1, e⟩ := bnd_some e
    obtain ⟨w, h2, e2, e⟩ := bnd_some e
    obtain ⟨i, j, rfl, rfl, e⟩ := rngd_inv e
    obtain ⟨⟨b1, b2, b3, b4⟩, rfl, rfl⟩ := rngdV_some e
    refine ⟨env, α, h, [.d (.int i), .d (.int j), .d (.int (-1))], _, g, er, arg3_eq e1 e2 rfl, fun α1 H1 vs L p1 => ?_⟩
    obtain ⟨u, ws, M, N, rfl, rfl, r1, t⟩ := p1.rel.uncons
    obtain ⟨u2, u3, M2, N2, rfl, rfl, r2, r3⟩ := t.two
    obtain ⟨rfl, _⟩ := r1.int_inv
    obtain ⟨rfl, _⟩ := r2.int_inv
    obtain ⟨rfl, _⟩ := r3.int_inv
    exact ⟨i, j, -1, _, rfl, RgC.neg b1 b2 b3 b4, q α1 H1 _ p1.step p1.good walk_rngd⟩
def mEnum (ma : Env → M PV) : Env → M ItV := fun env => M.bnd (ma env) fun v => M.bnd (srcOf v) fun s => M.ret (.enum s)
def mZip (ma mb : Env → M PV) : Env → M ItV := fun env => M.bnd (ma env) fun v => M.bnd (mb env) fun w => if (tupOf v).isSome == (tupOf w).isSome then M.bnd (M.of (srcOf0 v)) fun s => M.bnd (M.of (srcOf0 w)) fun t => M.ret (.zip s t) else M.no
theorem of_some {α : Type} {o : Option α} {a : α} {h h' : Hs} (e : M.of o h = some (a, h')) : o = some a ∧ h' = h := by
  cases o with
  | none => cases e
  | some b => cases e; exact ⟨rfl, rfl⟩
theorem i_zip {p tpos : Pos} {elts : List Expr} {kk : Nat} (hg : Gl X "zip") (hm : X.mg "zip" = none) (ha : PA X [a, b] (tMs X.K B (mArg2 ma mb))) (hs : starEach [a, b] X.env = (false, eval a X.env) :: starEach [b] X.env) (hp : (List.any (backTo pos (starEach [b] X.env)) fun x => x.1) = false) :
    PI X (.Tuple elts kk tpos) (.Call (.Name "zip" p) [a, b] [] pos) (tIt X.K B (mZip ma mb)) :=
  piI (pi_zipA hg hm ha hs hp) fun σ H R ⟨env, α, h, it, h', g, er, e, q⟩ => by
    obtain ⟨v, h1, e1, e⟩ := bnd_some e
    obtain ⟨w, h2, e2, e⟩ := bnd_some e
    refine ⟨env, α, h, [v, w], h2, g, er, arg2_eq e1 e2, fun α1 H1 vs L p1 => ?_⟩
    split at e
    · rename_i hk
      obtain ⟨s, h3, e3, e⟩ := bnd_some e
      obtain ⟨t, h4, e4, e5⟩ := bnd_some e
      obtain ⟨rfl, rfl⟩ := ret_some e5
      obtain ⟨o3, rfl⟩ := of_some e3
      obtain ⟨o4, rfl⟩ := of_some e4
      obtain ⟨u, u2, M, N, rfl, rfl, r1, r2⟩ := p1.rel.two
      obtain ⟨ad, rfl, ⟨xs, ex⟩, w1⟩ := src0_ok (p1.to r1.ones (List.sublist_append_left _ _)) o3
      obtain ⟨bd, rfl, ⟨ys, ey⟩, w2⟩ := src0_ok (p1.to r2.ones (List.sublist_append_right _ _)) o4
      rcases w1 with ⟨w1, k1⟩ | ⟨w1, k1⟩
      · rcases w2 with ⟨w2, k2⟩ | ⟨w2, k2⟩
        · obtain ⟨vs, sq, _⟩ := w1 α1 H1 _ .refl p1.good xs ex
          obtain ⟨us, sq2, _⟩ := w2 α1 H1 _ .refl p1.good ys ey
          exact ⟨ad, bd, vs, us, rfl, .inl ⟨sq, sq2, q α1 H1 _ p1.step p1.good (walk_zip w1 w2)⟩⟩
        · rw [k1, k2] at hk
          cases hk
      · rcases w2 with ⟨w2, k2⟩ | ⟨w2, k2⟩
        · rw [k1, k2] at hk
          cases hk
        · obtain ⟨vs, sq, _⟩ := w1 α1 H1 _ .refl p1.good xs ex
          obtain ⟨us, sq2, _⟩ := w2 α1 H1 _ .refl p1.good ys ey
          exact ⟨ad, bd, vs, us, rfl, .inr ⟨sq, sq2, q α1 H1 _ p1.step p1.good (walk_zipT w1 w2)⟩⟩
    · cases e
end
end Pe
/-! Pe: enumerate over a tuple (the hand layer has it over a list). -/
namespace Pe
open PySem PySem.Spec PyProof.Rows L2 RZ
open AutoSeq1 (wpAny_loadPart')

/-- enumerate.__new__ of one thing whose iterator is known -/
theorem enum_new1 {v : Value} {o : Obj} {C : Heap → Prop} (b : Begins v o C) : Meets (Builtin.«enumerate.__new__» ⟨[.type "enumerate", v], []⟩) (fun _ R s => C s.heap ∧
    R (.ok (.ret (.ref (s.heap.push o).objs.size))) { s with heap := (s.heap.push o).push ⟨.type "enumerate", none, .fields #[.none, .bool false, .ref s.heap.objs.size, rawInt 0, .none, .none], #[]⟩ }) :=
  .of_wp fun prog w A R s h => by
    obtain ⟨hp, g, d, tk, os⟩ := s
    obtain ⟨c1, h⟩ := h
    have sub := sub_enumerate
    have it : ∀ {A' : Around} {E : Value → Shared → Prop} {Q : Value → Shared → Prop}, Q (.ref hp.objs.size) ⟨hp.push o, g, d, tk, os⟩ → wpAny (model prog w) A' (pyIter v) Q E ⟨hp, g, d, tk, os⟩ :=
      fun q => b.iter prog w _ _ ⟨hp, g, d, tk, os⟩ _ c1 q
    wp_walk using it
    refine wpAny_stack_any fun st => wpAny_pure ?_
    split
    · rename_i c _ _ _ _ _
      cases (c == Value.type "enumerate") <;> (wp_walk using it; exact ⟨_, rfl, h⟩)
    · wp_walk using it
      exact ⟨_, rfl, h⟩
theorem enum_call1 {prog : Program} {w : World} {A : Around} {E : Value → Shared → Prop} {s : Shared} {v : Value} {o : Obj} {C : Heap → Prop} {Q : Value → Shared → Prop} (b : Begins v o C) (c1 : C s.heap)
    (q : ∀ h', IsEnum h' (s.heap.objs.size + 1) s.heap.objs.size 0 .none → h'.get? s.heap.objs.size = some o → (∀ b o, s.heap.get? b = some o → h'.get? b = some o) → Q (.ref (s.heap.objs.size + 1)) { s with heap := h' }) :
    wpAny (model prog w) A (PySem.call (.type "enumerate") [v]) Q E s := by
  refine callType_new F.called_enumerate (by decide) (F.typeCall_enumerate_1 _) (F.newCall_enumerate_1 _)
    (fun obj => F.args_object_init_2 obj _) F.entry_enumerate_new (enum_new1 b) ⟨c1, ?_⟩
  have z : (s.heap.push o).objs.size = s.heap.objs.size + 1 := Heap.size_push ..
  have en : IsEnum ((s.heap.push o).push ⟨.type "enumerate", none, .fields #[.none, .bool false, .ref s.heap.objs.size, rawInt 0, .none, .none], #[]⟩) (s.heap.objs.size + 1) s.heap.objs.size 0 .none := by
    have t := Heap.get?_push_size (s.heap.push o) (o := ⟨.type "enumerate", none, .fields #[.none, .bool false, .ref s.heap.objs.size, rawInt 0, .none, .none], #[]⟩) rfl
    rw [z] at t
    exact t
  show _ ∧ _
  rw [z]
  exact ⟨⟨_, en, rfl⟩, q _ en (Heap.get?_push_of_some _ (Heap.get?_push_size _ b.free)) fun b o x => Heap.get?_push_of_some _ (Heap.get?_push_of_some _ x)⟩

/-- the tuple at a, each item in a new pair -/
def IteT (K : PySem.W.Frag) (a : Addr) : L2.It :=
  ⟨fun i H => ∃ (xs : List V) (x : V), SqT K H a xs ∧ xs[i]? = some x,
   fun i H v H' => ∃ T x, v = .ref T ∧ H T = none ∧ H' = upd H T (.tup [.int (i : Nat), x]) ∧ ∀ xs, SqT K H a xs → xs[i]? = some x,
   fun i H => ∃ xs : List V, SqT K H a xs ∧ xs.length ≤ i⟩
theorem enum_turnT {P : Program} {w : World} {K : PySem.W.Frag} {elts : List Expr} {kk : Nat} {tpos : Pos} (a e it : Addr) :
    Turn P w K (.Tuple elts kk tpos) (IteT K a) [e, it] e (fun i h => (∃ old, IsEnum h e it ((i : Nat) : Int) old) ∧ h.IsTupleIter it a i ∧ e ≠ it) where
  mem := List.mem_cons_self
  obj := fun i h st b hb => by
    obtain ⟨⟨old, he⟩, ⟨o, ho, hc, hd⟩, _⟩ := st
    simp only [List.mem_cons, List.not_mem_nil, or_false] at hb
    rcases hb with rfl | rfl
    · exact ⟨_, he, fun v q => nomatch q⟩
    · exact ⟨o, ho, fun v q => by rw [hd] at q; cases q⟩
  keep := fun i h h' st k => by
    obtain ⟨⟨old, he⟩, hi, hne⟩ := st
    exact ⟨⟨old, k e (by simp) _ he⟩, hi.at fun o q => k it (by simp) o q, hne⟩
  item := by
    intro X hP hw hK hc i pins s σ H E I hf st hg
    subst hP hw hK
    obtain ⟨⟨old, he⟩, hit, hne⟩ := st
    obtain ⟨xs, x, hq, hx⟩ := hg
    obtain ⟨its, rv, p, hz⟩ := I.tuple hq
    obtain ⟨u, hu, ru⟩ := rv.get hx
    have hel : e < s.heap.objs.size := Heap.lt_size he
    have hil : it < s.heap.objs.size := by
      obtain ⟨_, q, _⟩ := hit
      exact Heap.lt_size q
    have hai : a ≠ it := fun z => by
      subst z
      obtain ⟨o1, q1, c1, _⟩ := hit
      obtain ⟨o2, q2, c2, _⟩ := p
      rw [q1] at q2
      cases q2
      rw [c1] at c2
      exact absurd c2 (by decide)
    have hae : e ≠ a := fun z => by
      subst z
      obtain ⟨o2, q2, c2, _⟩ := p
      have q1 := he
      rw [q1] at q2
      have eo := Option.some.inj q2
      rw [← eo] at c2
      exact absurd (show Value.type "enumerate" = Value.type "tuple" from c2) (by decide)
    have hlt : i < its.toArray.size := by
      have := (List.getElem?_eq_some_iff.mp hu).1
      simpa using this
    have D := Draws.tuple (prog := X.prog) (w := X.w) (A := X.A.in1) (I.ok.hd hc) it a hai its.toArray
    refine wpAny_pyNext_enum_itemD D he ⟨hit, p⟩ hlt hne (by simp [hne, hae]) fun y h' tk py ho st' hT hsz hk => ?_
    have ey : y = u := by
      have : its[i]? = some y := by simpa using py
      rw [hu] at this
      cases this
      rfl
    subst ey
    refine ⟨_, rfl, wpAny_letOwnedTupleGo_enum (s := { s with heap := h', toks := tk + 1 }) ho fun h'' he' sb => ?_⟩
    have hT2 := (sb.2 _ (Nat.ne_of_gt hel)).trans hT
    have nw : ObjOk X.prog X.w (upd H s.heap.objs.size (.tup [.int (i : Nat), x])) h'' s.heap.objs.size (.tup [.int (i : Nat), x]) :=
      ⟨by show 2 ≤ sizeLine; decide, [.int i tk, y], .cons ⟨_, rfl⟩ (.cons ru .nil), ⟨_, hT2, rfl, _, rfl⟩⟩
    have kp : ∀ b ob, b ∉ [e, it] → s.heap.get? b = some ob → h''.get? b = some ob := fun b ob hb q =>
      (sb.2 b fun z => hb (by simp [z])).trans (hk b ob (fun z => hb (by simp [z])) (fun z => hb (by simp [z])) q)
    have I1 := I.turnedNew (t' := tk + 1) kp hf (Nat.le_refl _) nw
    refine ⟨.ref s.heap.objs.size, _, I1, rfl, ⟨_, x, rfl, I.hok.fresh (Nat.le_refl _), rfl, fun ys hy => ?_⟩, ⟨⟨y, ?_⟩, st'.1.at fun o q => (sb.2 it (Ne.symm hne)).trans q, hne⟩, fun b hb => ?_⟩
    · rw [I.tuple_inj hy hq]
      exact hx
    · have e1 : ((i + 1 : Nat) : Int) = (i : Int) + 1 := by omega
      rw [e1]
      exact he'
    · have hb' : b < s.heap.objs.size := by
        simp only [List.mem_cons, List.not_mem_nil, or_false] at hb
        rcases hb with z | z
        · rw [z]; exact hel
        · rw [z]; exact hil
      rw [upd_ne (Nat.ne_of_lt hb')]
      exact (hf b hb).1
  done := by
    intro X hP hw hK hc i pins s σ H E I hf st hg
    subst hP hw hK
    obtain ⟨⟨old, he⟩, hit, hne⟩ := st
    obtain ⟨xs, hq, hx⟩ := hg
    obtain ⟨its, rv, p, hz⟩ := I.tuple hq
    obtain ⟨f0, f1, f2, f3, f4, f5⟩ := hf it (by simp)
    have hl := rv.length
    have hai : a ≠ it := fun z => by
      subst z
      obtain ⟨o1, q1, c1, _⟩ := hit
      obtain ⟨o2, q2, c2, _⟩ := p
      rw [q1] at q2
      cases q2
      rw [c1] at c2
      exact absurd c2 (by decide)
    have hno : its.toArray[i]? = none := by
      have : its[i]? = none := List.getElem?_eq_none_iff.mpr (by omega)
      simpa using this
    have D : Draws X.prog X.w X.A.in1 it [it, a] i (fun _ _ => True) (fun j h => j = i ∧ h.IsTupleIter it a i ∧ h.IsTuple a its.toArray) :=
      { live := fun j h st => by
          obtain ⟨o, ho, _⟩ := st.2.1
          exact ⟨o, ho⟩
        frame := fun j h h' st k => ⟨st.1, st.2.1.at fun o e => k it (by simp) o e, st.2.2.at fun o e => k a (by simp) o e⟩
        item := fun j s Q E hj st _ => absurd st.1 (Nat.ne_of_lt hj)
        done := fun s Q E st hE => wpAny_nextOf_tuple_end (I.ok.hd hc) st.2.1 st.2.2 hno hE }
    exact wpAny_pyNext_enum_endD D he ⟨rfl, hit, p⟩ fun h' eb => ⟨rfl, I.turned (t' := s.toks) (fun b o hb q => eb b o hb q) f0 f1 f3 f4 f5⟩
  self := fun A i s Q E st h => by
    obtain ⟨⟨_, he⟩, _⟩ := st
    exact wpAny_pyIter_enum he h
def iEnumT (K : PySem.W.Frag) (ta : TA) : TI := fun σ H R => ta σ H fun vs H1 => ∃ a xs, vs = [.ref a] ∧ SqT K H1 a xs ∧ R (IteT K a) H1
theorem pi_enumT {X : Cx} {e : Expr} {ta : TA} {p pos tpos : Pos} {elts : List Expr} {kk : Nat} (hg : Gl X "enumerate") (hm : X.mg "enumerate" = none) (ha : PA X [e] ta) (hs : starEach [e] X.env = [(false, eval e X.env)]) :
    PI X (.Tuple elts kk tpos) (.Call (.Name "enumerate" p) [e] [] pos) (iEnumT X.K ta) := by
  refine ⟨fun pins s σ H R I h => ?_⟩
  refine Call_ (ld_blt I hg hm boot_enumerate (PyProof.Rows.callWith_type1 (thn (ha.run pos pins s σ H _ I h) fun us s1 ⟨vs, H1, I1, r1, q1⟩ => ?_) hs rfl))
  obtain ⟨a, xs, ex, hq, q⟩ := q1
  subst ex
  cases r1 with
  | cons r rr =>
    cases rr
    cases r
    obtain ⟨its, rv, tp, hz⟩ := I1.tuple hq
    refine enum_call1 (begins_tuple a its.toArray) tp fun h' he hit hk => wpAny_pyIter_enum he ?_
    have I2 : Inv X pins σ H1 { s1 with heap := h' } := I1.kept (t' := s1.toks) hk
    refine ⟨s1.heap.objs.size + 1, [s1.heap.objs.size + 1, s1.heap.objs.size], _, _, H1, rfl, I2, enum_turnT a _ s1.heap.objs.size, ⟨⟨.none, he⟩, ⟨_, hit, rfl, rfl⟩, Nat.succ_ne_self _⟩, fun b hb => ?_, q⟩
    have hle : s1.heap.objs.size ≤ b := by
      simp only [List.mem_cons, List.not_mem_nil, or_false] at hb
      rcases hb with z | z
      · rw [z]; exact Nat.le_add_right _ _
      · rw [z]; exact Nat.le_refl _
    exact I1.fpOk hle (I1.hok.fresh hle)

section
variable {X : Cx} {K : PySem.W.Frag} {B : List Nat} {α : List Addr} {H : Hp} {a : Expr} {ma : Env → M PV} {pos : Pos}
theorem walk_enumT {s : Src} {a : Addr} (w : SrcT K B s α H a) : Walk K B (.enum s) α H (IteT K a) := fun α' H' h' st g i => by
  refine ⟨fun e => ?_, fun x e => ?_⟩
  · obtain ⟨xs, e1, e2⟩ := map_some' e
    obtain ⟨vs, q, r⟩ := w α' H' h' st g xs e1
    exact ⟨vs, q, by rw [← r.length]; exact getElem?_none_le (Option.map_eq_none_iff.mp e2)⟩
  · obtain ⟨xs, e1, e2⟩ := map_some' e
    obtain ⟨vs, q, r⟩ := w α' H' h' st g xs e1
    obtain ⟨y, e4, e5⟩ := map_some' e2
    obtain ⟨v, M, e3, rx, sb⟩ := r.get e4
    have := List.sublist_nil.mp sb
    subst this e5
    refine ⟨⟨vs, v, q, e3⟩, fun v' H2 yl => ?_⟩
    obtain ⟨T, z, rfl, nT, rfl, yl⟩ := yl
    have := Option.some.inj ((yl vs q).symm.trans e3)
    subst this
    exact pair_rel nT (.d (.int _)) rx
theorem i_enum {p tpos : Pos} {elts : List Expr} {kk : Nat} (hg : Gl X "enumerate") (hm : X.mg "enumerate" = none) (ha : PA X [a] (tMs X.K B (mArg1 ma))) (hs : starEach [a] X.env = [(false, eval a X.env)]) : PI X (.Tuple elts kk tpos) (.Call (.Name "enumerate" p) [a] [] pos) (tIt X.K B (mEnum ma)) :=
  piI (piOr (pi_enum hg hm ha hs) (pi_enumT hg hm ha hs)) fun σ H R ⟨env, α, h, it, h', g, er, e, q⟩ => by
    obtain ⟨v, h1, e1, e⟩ := bnd_some e
    obtain ⟨s, h2, e2, e3⟩ := bnd_some e
    obtain ⟨rfl, rfl⟩ := ret_some e3
    cases k : (tupOf v).isSome with
    | false =>
      refine .inl ⟨env, α, h, [v], h1, g, er, arg1_eq e1, fun α1 H1 us L p1 => ?_⟩
      obtain ⟨u, ws, M, N, rfl, rfl, r1, r2⟩ := p1.rel.uncons
      cases r2
      obtain ⟨α2, ad, rfl, s2, g2, _, ⟨xs, ex⟩, w⟩ := srcOf_ok (p1.to r1.ones (List.sublist_append_left _ _)) e2
      rcases w with ⟨w, _⟩ | ⟨_, z⟩
      · obtain ⟨vs, sq, _⟩ := w α2 H1 _ .refl g2 xs ex
        exact ⟨ad, vs, rfl, sq, q α2 H1 _ s2 g2 (walk_enum w)⟩
      · rw [k] at z
        cases z
    | true =>
      refine .inr ⟨env, α, h, [v], h1, g, er, arg1_eq e1, fun α1 H1 us L p1 => ?_⟩
      obtain ⟨u, ws, M, N, rfl, rfl, r1, r2⟩ := p1.rel.uncons
      cases r2
      obtain ⟨α2, ad, rfl, s2, g2, _, ⟨xs, ex⟩, w⟩ := srcOf_ok (p1.to r1.ones (List.sublist_append_left _ _)) e2
      rcases w with ⟨_, z⟩ | ⟨w, _⟩
      · rw [k] at z
        cases z
      · obtain ⟨vs, sq, _⟩ := w α2 H1 _ .refl g2 xs ex
        exact ⟨ad, vs, rfl, sq, q α2 H1 _ s2 g2 (walk_enumT w)⟩
end
end Pe
/-! Pe: comprehensions and statements. -/
namespace Pe
open PySem PySem.Spec PyProof.Rows L2 RZ

section
variable {K : PySem.W.Frag} {B : List Nat} {α0 α α' α1 : List Addr} {H0 H H' H1 : Hp} {h h' h1 : Hs} {ys : List PV} {z : PV} {w : V} {L M : List Addr} {d : Addr} {o : HO}
theorem Step.upd_new (s : Step α0 H0 α' H') (n : H0 d = none) : Step α0 H0 α' (upd H' d o) :=
  ⟨s.pre, fun b u e nb => by rw [upd_ne (ne_of_none e n)]; exact s.keep b u e nb, fun b u e => by
    obtain ⟨u', e'⟩ := s.there b u e
    exact ⟨u', by rw [upd_ne (ne_of_none e n)]; exact e'⟩⟩
theorem Step.of_kept (k : Kept (fun _ => False) H H') : Step α H α H' := ⟨⟨[], by simp, fun _ z => absurd z List.not_mem_nil⟩, fun b u e _ => k.keep b u e fun z => z, fun b u e => ⟨u, k.keep b u e fun z => z⟩⟩
theorem Good.side (g : Good K B α h H) (k : Kept (· = d) H H') (nd : d ∉ α) : Good K B α h H' where
  len := g.len
  nd := g.nd
  wf := g.wf
  cell := fun n xs a e1 e2 => by
    obtain ⟨vs, e, z, r⟩ := g.cell n xs a e1 e2
    refine ⟨vs, k.keep _ _ e fun q => nd ?_, z, PRs.keep k (fun _ _ e => e) _ _ _ r fun _ q => absurd q List.not_mem_nil⟩
    rw [← q]
    exact List.mem_of_getElem? e2
/-- the list at d grows by one item -/
theorem Psts.grow {acc : List V} (p : Psts K B α0 H0 α H h [.tl ys, z] [.ref d, w] ((d :: L) ++ M)) (r : PRs K α H ys acc L) (rz : PR K α H z w M) (ed : H d = some (.lst acc)) (hz : ys.length < sizeLine) :
    Psts K B α0 H0 α (upd H d (.lst (acc ++ [w]))) h [.tl (ys ++ [z])] [.ref d] (d :: (L ++ M)) := by
  have hd : d ∈ (d :: L) ++ M := List.mem_append_left _ List.mem_cons_self
  have nd := p.nd
  rw [List.cons_append, List.nodup_cons] at nd
  have k : Kept (· = d) H (upd H d (.lst (acc ++ [w]))) := ⟨fun b hb => by rw [hb]; exact ⟨_, ed, trivial⟩, fun b u e hb => by rw [upd_ne hb]; exact e⟩
  have ix : ∀ (n : Nat) a, α[n]? = some a → α[n]? = some a := fun _ _ e => e
  have r1 := PRs.keep k ix _ _ _ r fun a ha q => nd.1 (by rw [← q]; exact List.mem_append_left _ ha)
  have r2 := PR.keep k ix _ _ _ rz fun a ha q => nd.1 (by rw [← q]; exact List.mem_append_right _ ha)
  refine ⟨p.step.upd_new (p.fr d hd), p.good.side k (p.out d hd), ?_, ?_, fun a ha => p.out a ha, fun a ha => p.fr a ha⟩
  · exact (PR.tl upd_same (by rw [List.length_append]; exact hz) (r1.append r2.ones)).ones
  · exact p.nd
theorem wipe_eq : ∀ {vs : List Nat} {σ σ' : L2.St}, σ'.length = σ.length → (∀ i, i ∉ vs → σ'[i]? = σ[i]?) → L2.wipe σ' vs = L2.wipe σ vs := by
  have get : ∀ (vs : List Nat) (σ : L2.St) (i : Nat), (L2.wipe σ vs)[i]? = if i ∈ vs then (if i < σ.length then some none else none) else σ[i]? := by
    intro vs
    induction vs with
    | nil => intro σ i; rw [if_neg List.not_mem_nil]; rfl
    | cons v vs ih =>
      intro σ i
      unfold L2.wipe
      by_cases hv : v = i
      · subst hv
        rw [if_pos List.mem_cons_self]
        by_cases hl : v < σ.length
        · rw [if_pos hl, List.getElem?_set_self (by rw [L2.wipe_length]; exact hl)]
        · rw [if_neg hl, List.getElem?_eq_none (by rw [List.length_set, L2.wipe_length]; omega)]
      · rw [List.getElem?_set_ne hv, ih σ i]
        by_cases hm : i ∈ vs
        · rw [if_pos hm, if_pos (List.mem_cons_of_mem _ hm)]
        · rw [if_neg hm, if_neg]
          intro z
          rcases List.mem_cons.mp z with z | z
          · exact hv z.symm
          · exact hm z
  intro vs σ σ' hl hs
  refine List.ext_getElem? fun i => ?_
  rw [get, get, hl]
  by_cases hm : i ∈ vs
  · rw [if_pos hm, if_pos hm]
  · rw [if_neg hm, if_neg hm]
    exact hs i hm
theorem wipe_wipe {vs : List Nat} {σ : L2.St} : L2.wipe (L2.wipe σ vs) vs = L2.wipe σ vs := by
  refine wipe_eq (L2.wipe_length _ _) fun i hi => L2.wipe_out hi
end

/-! ### comprehensions -/
def tests (hc : Bool) (mc : Env → M PV) : Env → M Bool := fun env => if hc then M.bnd (mc env) boolV else M.ret true
def mItem (t : T) (own : List Nat) (mt : Env → M Bool) (me : Env → M PV) (env : Env) : PV → M (Option PV) := fun x => M.bnd (bindT t x (wipeE env own)) fun env1 => M.bnd (mt env1) fun k => if k then M.bnd (me env1) fun y => M.ret (some y) else M.ret none
def mComp (mi : Env → M ItV) (t : T) (own : List Nat) (mt : Env → M Bool) (me : Env → M PV) : Env → M PV := fun env => M.bnd (mi env) fun iv => fun h => match cloop (mItem t own mt me env) iv (iv.fuel h) 0 [] h with
  | some (ys, h1) => some (.tl ys, h1)
  | none => none
theorem pts_yes {X : Cx} {K : PySem.W.Frag} {B : List Nat} {mc : Env → M PV} : PTs X [] (tMB K B (tests false mc)) := ⟨fun pins s σ H Q I ⟨env, α, h, k, h', g, er, e, q⟩ => by
  obtain ⟨rfl, rfl⟩ := ret_some (show M.ret true h = some (k, h') from e)
  exact pts_nil.run pins s σ H Q I (q α H .refl g)⟩
theorem pts_if {X : Cx} {K : PySem.W.Frag} {B : List Nat} {c : Expr} {mc : Env → M PV} (hc : PT X c (tMB K B (mB mc))) : PTs X [c] (tMB K B (tests true mc)) := pts_one hc
section
variable {X : Cx} {B : List Nat} {elt tg iter : Expr} {ifs : List Expr} {scope : Scope} {own : List (Str × Nat)} {pos : Pos} {mi : Env → M ItV} {t : T} {mt : Env → M Bool} {me : Env → M PV}
theorem comp_read {σ : L2.St} {H : Hp} {Q : VK} (hsl : ∀ i ∈ t.slots, i ∈ own.map (·.2)) (tt : tM X.K B (mComp mi t (own.map (·.2)) mt me) σ H Q) : tLc (tIt X.K B mi) (tT X.K B t) (tMB X.K B mt) (tM X.K B me) (own.map (·.2)) σ H Q := by
  obtain ⟨env, α, h, z, h', g, er, e, q⟩ := tt
  obtain ⟨iv, h1, e1, e⟩ := bnd_some e
  refine ⟨env, α, h, iv, h1, g, er, e1, fun α1 H1 J s1 g1 wk D nD => ?_⟩
  cases ec : cloop (mItem t (own.map (·.2)) mt me env) iv (iv.fuel h1) 0 [] h1 with
  | none =>
    rw [ec] at e
    cases e
  | some r =>
  obtain ⟨zs, hf⟩ := r
  rw [ec] at e
  cases e
  refine ⟨fun i m H' => ∃ αi hi ys L, Psts X.K B α H αi H' hi [.tl ys] [.ref D] (D :: L) ∧ Step α1 H1 αi H' ∧ cloop (mItem t (own.map (·.2)) mt me env) iv m i ys hi = some (zs, h'), ⟨iv.fuel h1, α1, h1, [], [], ?_, Step.fresh nD, ec⟩, ?_⟩
  · have p0 : Psts X.K B α H α1 H1 h1 [] [] [] := ⟨s1, g1, .nil, List.nodup_nil, fun _ z => absurd z List.not_mem_nil, fun _ z => absurd z List.not_mem_nil⟩
    exact p0.newList nD .nil (List.Sublist.refl _) (Nat.zero_le _)
  · rintro i m H' ⟨αi, hi, ys, L, P, S, ce⟩
    have wi := wk αi H' hi S P.good i
    have stop : iv.at hi i = some none → zs = ys → h' = hi → J.stop i H' ∧ Q (.ref D) H' := fun ea e1 e2 => by
      subst e1 e2
      exact ⟨wi.1 ea, q _ _ _ _ P⟩
    cases m with
    | zero =>
      unfold cloop at ce
      split at ce
      · rename_i ea
        cases ce
        exact .inl (stop ea rfl rfl)
      · cases ce
    | succ m =>
      unfold cloop at ce
      split at ce
      · rename_i ea
        cases ce
        exact .inl (stop ea rfl rfl)
      · rename_i x ea
        refine .inr ⟨(wi.2 x ea).1, fun H'' => ∃ αi hi ys L, Psts X.K B α H αi H'' hi [.tl ys] [.ref D] (D :: L) ∧ Step α1 H1 αi H'' ∧ cloop (mItem t (own.map (·.2)) mt me env) iv m (i + 1) ys hi = some (zs, h'), fun H'' n => ⟨m, Nat.lt_succ_self m, n⟩, fun v H2 yl => ?_⟩
        obtain ⟨kp, rx⟩ := (wi.2 x ea).2 v H2 yl
        have st2 : Step αi H' αi H2 := Step.of_kept kp
        have g2 := P.good.mono kp
        have P2 := P.later st2 g2
        have S2 := S.trans st2
        split at ce
        · -- an item
          rename_i y h3 eo
          obtain ⟨env1, h2, eb, eo⟩ := bnd_some eo
          obtain ⟨k, h4, et, eo⟩ := bnd_some eo
          cases k with
          | false => cases eo
          | true =>
            obtain ⟨y', h5, ey, eo⟩ := bnd_some eo
            obtain ⟨en, rfl⟩ := ret_some eo
            cases en
            split at ce
            · rename_i hz
              have er2 : EnvR X.K αi H2 (wipeE env (own.map (·.2))) (L2.wipe σ (own.map (·.2))) := (er.later g P2.step).wipe _
              refine ⟨αi, H2, αi, hi, _, x, [], env1, h2, ⟨.refl, g2, rx.ones, List.nodup_nil, fun _ z => absurd z List.not_mem_nil, fun _ z => absurd z List.not_mem_nil⟩, er2, eb, fun α3 σ3 s3 g3 er3 sb3 _ => ?_⟩
              refine ⟨(wipe_eq sb3.1 fun i hi => sb3.2 i fun z => hi (hsl i z)).trans wipe_wipe, env1, α3, h2, true, h4, g3, er3, et, fun α4 H4 s4 g4 => iteT ?_⟩
              refine ⟨env1, α4, h4, y, h3, g4, er3.later g3 s4, ey, fun α5 H5 w M p5 => ?_⟩
              have P3 := (P2.later (s3.trans s4) g4).app p5
              obtain ⟨u1, u2, L1, L2, eu, eL, r1, r2⟩ := P3.rel.two
              cases eu
              have r1' := (P2.later (s3.trans s4) g4).later p5.step p5.good
              have r1'' := r1'.one
              cases r1'' with
              | tl hD zD rD =>
                refine ⟨_, hD, by rw [← rD.length]; exact hz, α5, h3, ys ++ [y], L ++ M, P3.grow rD p5.one hD hz, ?_, ce⟩
                exact (((S2.trans s3).trans s4).trans p5.step).upd_new nD
            · cases ce
        · -- left out
          rename_i h3 eo
          obtain ⟨env1, h2, eb, eo⟩ := bnd_some eo
          obtain ⟨k, h4, et, eo⟩ := bnd_some eo
          cases k with
          | true =>
            obtain ⟨y', h5, ey, eo⟩ := bnd_some eo
            obtain ⟨en, _⟩ := ret_some eo
            cases en
          | false =>
            obtain ⟨_, rfl⟩ := ret_some eo
            have er2 : EnvR X.K αi H2 (wipeE env (own.map (·.2))) (L2.wipe σ (own.map (·.2))) := (er.later g P2.step).wipe _
            refine ⟨αi, H2, αi, hi, _, x, [], env1, h2, ⟨.refl, g2, rx.ones, List.nodup_nil, fun _ z => absurd z List.not_mem_nil, fun _ z => absurd z List.not_mem_nil⟩, er2, eb, fun α3 σ3 s3 g3 er3 sb3 _ => ?_⟩
            refine ⟨(wipe_eq sb3.1 fun i hi => sb3.2 i fun z => hi (hsl i z)).trans wipe_wipe, env1, α3, h2, false, h3, g3, er3, et, fun α4 H4 s4 g4 => iteF ?_⟩
            exact ⟨α4, h3, ys, L, P2.later (s3.trans s4) g4, (S2.trans s3).trans s4, ce⟩
        · cases ce
      · cases ce
theorem e_comp (hc : X.calm = true) (hN : X.N.Nodup) (hi : PI X tg iter (tIt X.K B mi)) (ok : BlkOk X.N X.env.scope scope own) (hsl : ∀ i ∈ t.slots, i ∈ own.map (·.2))
    (hg : ∀ (s : Shared) (H : Hp) (C : Addr) (cl : List (Str × Addr)) (fp : List Addr), PG (X.blk s H scope (compEnvC scope cl C X.env) fp) tg (tT X.K B t)) (ht : ∀ (s : Shared) (H : Hp) (C : Addr) (cl : List (Str × Addr)) (fp : List Addr), PTs (X.blk s H scope (compEnvC scope cl C X.env) fp) ifs (tMB X.K B mt))
    (he : ∀ (s : Shared) (H : Hp) (C : Addr) (cl : List (Str × Addr)) (fp : List Addr), PE (X.blk s H scope (compEnvC scope cl C X.env) fp) elt (tM X.K B me)) (hs : ∀ x, foldedSetIterable iter X.env x = pure x) :
    PE X (.ListComp elt [⟨tg, iter, ifs, 0⟩] scope pos) (tM X.K B (mComp mi t (own.map (·.2)) mt me)) :=
  peI (pe_lc hc hN hi ok hg ht he hs) fun σ H Q tt => comp_read hsl tt
end

/-! ### dict comprehensions -/
def mPair (t : T) (own : List Nat) (mt : Env → M Bool) (mk mv : Env → M PV) (env : Env) : PV → M (Option (Sum Int Str × D)) := fun x => M.bnd (bindT t x (wipeE env own)) fun env1 => M.bnd (mt env1) fun b => if b then M.bnd (mk env1) fun y => M.bnd (mv env1) fun z => pairM y z else M.ret none
def mDcomp (mi : Env → M ItV) (t : T) (own : List Nat) (mt : Env → M Bool) (mk mv : Env → M PV) : Env → M PV := fun env => M.bnd (mi env) fun iv => fun h => match dloop (mPair t own mt mk mv env) iv (iv.fuel h) 0 [] h with
  | some (es, h1) => some (.fd es, h1)
  | none => none
theorem pairM_some {x y : PV} {h h' : Hs} {r : Option (Sum Int Str × D)} (e : pairM x y h = some (r, h')) : ∃ d k v, x = .d d ∧ keyD d = some k ∧ y = .d v ∧ r = some (k, v) ∧ h' = h := by
  cases x with
  | d d => cases y with
    | d v =>
      have e' : (match keyD d with
        | some k => M.ret (some (k, v))
        | none => M.no) h = some (r, h') := e
      cases ek : keyD d with
      | none => rw [ek] at e'; cases e'
      | some k =>
        rw [ek] at e'
        obtain ⟨rfl, rfl⟩ := ret_some e'
        exact ⟨d, k, v, rfl, ek, rfl, rfl, rfl⟩
    | _ => cases e
  | _ => cases e
theorem FDs.put {K : PySem.W.Frag} {H : Hp} {k : Key} {x : D} {v : V} (hv : DR K H x v) : ∀ {es : List (Sum Int Str × D)} {kvs : List (Key × V)}, FDs K H es kvs → FDs K H (putD es k x) (putK kvs k v) := by
  intro es kvs r
  have e1 : hasK es k = kvs.any fun kv => decide (kv.1 = k) := by
    rw [r.val, valV_any]
  unfold putD putK
  rw [e1]
  split
  · rename_i hc
    clear e1 hc
    induction r with
    | nil => exact .nil
    | @cons k' x' v' xs vs h t ih =>
      rw [List.map_cons, List.map_cons]
      dsimp only
      by_cases e : k' = k
      · rw [if_pos e, if_pos e]
        exact .cons hv ih
      · rw [if_neg e, if_neg e]
        exact .cons h ih
  · rename_i hc
    clear e1 hc
    induction r with
    | nil => exact .cons hv .nil
    | cons h t ih => exact .cons h ih
theorem FDs.length {K : PySem.W.Frag} {H : Hp} {es : List (Sum Int Str × D)} {kvs : List (Key × V)} (r : FDs K H es kvs) : es.length = kvs.length := by
  induction r with
  | nil => rfl
  | cons _ _ ih => rw [List.length_cons, List.length_cons, ih]
section
variable {X : Cx} {B : List Nat} {kx vx elt tg iter : Expr} {ifs : List Expr} {scope : Scope} {own : List (Str × Nat)} {pos : Pos} {mi : Env → M ItV} {t : T} {mt : Env → M Bool} {me mk mv : Env → M PV}
/-- a thing that nobody knows yet is changed -/
theorem Psts.side {K : PySem.W.Frag} {α0 α : List Addr} {H0 H : Hp} {h : Hs} {D : Addr} {kvs : List (Key × V)} {u : HO} (p : Psts K B α0 H0 α H h [] [] []) (hD : H D = some (.dK kvs)) (nD : D ∉ α) (n0 : H0 D = none) : Psts K B α0 H0 α (upd H D u) h [] [] [] := by
  have k : Kept (· = D) H (upd H D u) := ⟨fun b hb => by subst hb; exact ⟨_, hD, trivial⟩, fun b o q hb => by rw [upd_ne hb]; exact q⟩
  exact ⟨p.step.upd_new n0, p.good.side k nD, .nil, List.nodup_nil, fun _ z => absurd z List.not_mem_nil, fun _ z => absurd z List.not_mem_nil⟩
def dkQ (Q : VK) : VK := fun v H => ∃ D kvs, v = .ref D ∧ H D = some (.dK kvs) ∧ ∀ o, Q v (upd H D (.frz o (.dK kvs)))
theorem pe_lock {e : Expr} {t : TE} (p : PE X e t) : PE X e (fun σ H Q => t σ H (dkQ Q)) := ⟨fun pins s σ H Q I h => thn (p.run pins s σ H _ I h) fun u s1 ⟨v, H1, I1, r1, D, kvs, e, hD, q⟩ => by
  obtain ⟨o, I2⟩ := I1.lock hD trivial
  exact ⟨v, _, I2, r1, q o⟩⟩
theorem dcomp_read {σ : L2.St} {H : Hp} {Q : VK} (hsl : ∀ i ∈ t.slots, i ∈ own.map (·.2)) (tt : tM X.K B (mDcomp mi t (own.map (·.2)) mt mk mv) σ H Q) : tDc (tIt X.K B mi) (tT X.K B t) (tMB X.K B mt) (tM X.K B mk) (tM X.K B mv) (own.map (·.2)) σ H (dkQ Q) := by
  obtain ⟨env, α, h, z, h', g, er, e, q⟩ := tt
  obtain ⟨iv, h1, e1, e⟩ := bnd_some e
  refine ⟨env, α, h, iv, h1, g, er, e1, fun α1 H1 J s1 g1 wk D nD => ?_⟩
  cases ec : dloop (mPair t (own.map (·.2)) mt mk mv env) iv (iv.fuel h1) 0 [] h1 with
  | none =>
    rw [ec] at e
    cases e
  | some r =>
  obtain ⟨zs, hf⟩ := r
  rw [ec] at e
  cases e
  have n0 : H D = none := s1.none_back nD
  refine ⟨fun i m H' => ∃ αi hi es kvs, Psts X.K B α H αi H' hi [] [] [] ∧ H' D = some (.dK kvs) ∧ FDs X.K H' es kvs ∧ D ∉ αi ∧ Step α1 H1 αi H' ∧ dloop (mPair t (own.map (·.2)) mt mk mv env) iv m i es hi = some (zs, h'), ⟨iv.fuel h1, α1, h1, [], [], ?_, upd_same, .nil, ?_, Step.fresh nD, ec⟩, ?_⟩
  · have p0 : Psts X.K B α H α1 H1 h1 [] [] [] := ⟨s1, g1, .nil, List.nodup_nil, fun _ z => absurd z List.not_mem_nil, fun _ z => absurd z List.not_mem_nil⟩
    exact p0.fresh nD
  · intro z
    obtain ⟨_, _, us, _, _, e⟩ := g1.of_addr z
    rw [nD] at e
    cases e
  · rintro i m H' ⟨αi, hi, es, kvs, P, hD, rr, oD, S, ce⟩
    have wi := wk αi H' hi S P.good i
    have stop : iv.at hi i = some none → zs = es → h' = hi → J.stop i H' ∧ dkQ Q (.ref D) H' := fun ea e1 e2 => by
      subst e1 e2
      refine ⟨wi.1 ea, D, kvs, rfl, hD, fun o => ?_⟩
      have P2 := P.side (u := .frz o (.dK kvs)) hD oD n0
      have k : Kept (· = D) H' (upd H' D (.frz o (.dK kvs))) := ⟨fun b hb => by subst hb; exact ⟨_, hD, trivial⟩, fun b o q hb => by rw [upd_ne hb]; exact q⟩
      exact q _ _ _ _ (P2.to (PR.fd upd_same (rr.keep k)).ones (List.nil_sublist _))
    cases m with
    | zero =>
      unfold dloop at ce
      split at ce
      · rename_i ea
        cases ce
        exact .inl (stop ea rfl rfl)
      · cases ce
    | succ m =>
      unfold dloop at ce
      split at ce
      · rename_i ea
        cases ce
        exact .inl (stop ea rfl rfl)
      · rename_i x ea
        refine .inr ⟨(wi.2 x ea).1, fun H'' => ∃ αi hi es kvs, Psts X.K B α H αi H'' hi [] [] [] ∧ H'' D = some (.dK kvs) ∧ FDs X.K H'' es kvs ∧ D ∉ αi ∧ Step α1 H1 αi H'' ∧ dloop (mPair t (own.map (·.2)) mt mk mv env) iv m (i + 1) es hi = some (zs, h'), fun H'' n => ⟨m, Nat.lt_succ_self m, n⟩, fun v H2 yl => ?_⟩
        obtain ⟨kp, rx⟩ := (wi.2 x ea).2 v H2 yl
        have st2 : Step αi H' αi H2 := Step.of_kept kp
        have g2 := P.good.mono kp
        have P2 := P.later st2 g2
        have S2 := S.trans st2
        have hD2 : H2 D = some (.dK kvs) := kp.keep _ _ hD fun z => z
        have rr2 : FDs X.K H2 es kvs := rr.keep kp
        split at ce
        · -- an item
          rename_i y h3 eo
          obtain ⟨env1, h2, eb, eo⟩ := bnd_some eo
          obtain ⟨b, h4, et, eo⟩ := bnd_some eo
          cases b with
          | false => cases eo
          | true =>
            obtain ⟨y1, h5, ey, eo⟩ := bnd_some eo
            obtain ⟨y2, h6, ev, eo⟩ := bnd_some eo
            obtain ⟨d, k, vd, rfl, ek, rfl, en, rfl⟩ := pairM_some eo
            cases en
            split at ce
            · rename_i hz
              have er2 : EnvR X.K αi H2 (wipeE env (own.map (·.2))) (L2.wipe σ (own.map (·.2))) := (er.later g P2.step).wipe _
              refine ⟨αi, H2, αi, hi, _, x, [], env1, h2, ⟨.refl, g2, rx.ones, List.nodup_nil, fun _ z => absurd z List.not_mem_nil, fun _ z => absurd z List.not_mem_nil⟩, er2, eb, fun α3 σ3 s3 g3 er3 sb3 _ => ?_⟩
              refine ⟨(wipe_eq sb3.1 fun i hi => sb3.2 i fun z => hi (hsl i z)).trans wipe_wipe, env1, α3, h2, true, h4, g3, er3, et, fun α4 H4 s4 g4 => iteT ?_⟩
              refine ⟨env1, α4, h4, _, h5, g4, er3.later g3 s4, ey, fun α5 H5 w M p5 => ?_⟩
              have ew := keyD_rel ek p5.one
              subst ew
              have s34 := s3.trans s4
              refine ⟨env1, α5, h5, _, _, p5.good, (er3.later g3 s4).later g4 p5.step, ev, fun α6 H6 w2 M2 p6 => ?_⟩
              have sx := (s34.trans p5.step).trans p6.step
              have hD6 : H6 D = some (.dK kvs) := sx.keep _ _ hD2 oD
              have oD6 : D ∉ α6 := sx.out oD hD2
              have rr6 : FDs X.K H6 es kvs := rr2.keep (g2.kept sx)
              have r6 := p6.one
              cases r6 with
              | d hdr =>
                have P6 : Psts X.K B α H α6 H6 _ [] [] [] := P2.later sx p6.good
                have kD : Kept (· = D) H6 (upd H6 D (.dK (putK kvs k w2))) := ⟨fun b hb => by subst hb; exact ⟨_, hD6, trivial⟩, fun b o q hb => by rw [upd_ne hb]; exact q⟩
                exact ⟨kvs, k, rfl, hD6, by rw [← rr6.length]; exact hz, α6, _, putD es k vd, putK kvs k w2, P6.side hD6 oD6 n0, upd_same, (FDs.put hdr rr6).keep kD, oD6, (S2.trans sx).upd_new nD, ce⟩
            · cases ce
        · -- left out
          rename_i h3 eo
          obtain ⟨env1, h2, eb, eo⟩ := bnd_some eo
          obtain ⟨b, h4, et, eo⟩ := bnd_some eo
          cases b with
          | true =>
            obtain ⟨y1, h5, ey, eo⟩ := bnd_some eo
            obtain ⟨y2, h6, ev, eo⟩ := bnd_some eo
            obtain ⟨d, k, vd, rfl, ek, rfl, en, rfl⟩ := pairM_some eo
            cases en
          | false =>
            obtain ⟨_, rfl⟩ := ret_some eo
            have er2 : EnvR X.K αi H2 (wipeE env (own.map (·.2))) (L2.wipe σ (own.map (·.2))) := (er.later g P2.step).wipe _
            refine ⟨αi, H2, αi, hi, _, x, [], env1, h2, ⟨.refl, g2, rx.ones, List.nodup_nil, fun _ z => absurd z List.not_mem_nil, fun _ z => absurd z List.not_mem_nil⟩, er2, eb, fun α3 σ3 s3 g3 er3 sb3 _ => ?_⟩
            refine ⟨(wipe_eq sb3.1 fun i hi => sb3.2 i fun z => hi (hsl i z)).trans wipe_wipe, env1, α3, h2, false, h3, g3, er3, et, fun α4 H4 s4 g4 => iteF ?_⟩
            have sx := s3.trans s4
            exact ⟨α4, h3, es, kvs, P2.later sx g4, sx.keep _ _ hD2 oD, rr2.keep (g2.kept sx), sx.out oD hD2, S2.trans sx, ce⟩
        · cases ce
      · cases ce
theorem e_dcomp (hc : X.calm = true) (hN : X.N.Nodup) (hi : PI X tg iter (tIt X.K B mi)) (ok : BlkOk X.N X.env.scope scope own) (hsl : ∀ i ∈ t.slots, i ∈ own.map (·.2))
    (hg : ∀ (s : Shared) (H : Hp) (C : Addr) (cl : List (Str × Addr)) (fp : List Addr), PG (X.blk s H scope (compEnvC scope cl C X.env) fp) tg (tT X.K B t)) (ht : ∀ (s : Shared) (H : Hp) (C : Addr) (cl : List (Str × Addr)) (fp : List Addr), PTs (X.blk s H scope (compEnvC scope cl C X.env) fp) ifs (tMB X.K B mt))
    (hk : ∀ (s : Shared) (H : Hp) (C : Addr) (cl : List (Str × Addr)) (fp : List Addr), PE (X.blk s H scope (compEnvC scope cl C X.env) fp) kx (tM X.K B mk)) (hv : ∀ (s : Shared) (H : Hp) (C : Addr) (cl : List (Str × Addr)) (fp : List Addr), PE (X.blk s H scope (compEnvC scope cl C X.env) fp) vx (tM X.K B mv)) (hs : ∀ x, foldedSetIterable iter X.env x = pure x) :
    PE X (.DictComp kx vx [⟨tg, iter, ifs, 0⟩] scope pos) (tM X.K B (mDcomp mi t (own.map (·.2)) mt mk mv)) :=
  peI (pe_lock (pe_dc hc hN hi ok hg ht hk hv hs)) fun σ H Q tt => dcomp_read hsl tt
end

/-! ### statements -/
def FlOk (K : PySem.W.Frag) (B : List Nat) (α : List Addr) (H : Hp) (f : Fl) (h : Hs) (D : Ends) : Prop := match f with
  | .nx e => ∀ α' H' σ', Step α H α' H' → Good K B α' h H' → EnvR K α' H' e σ' → D.nx σ' H'
  | .bk e => ∀ α' H' σ', Step α H α' H' → Good K B α' h H' → EnvR K α' H' e σ' → D.bk σ' H'
  | .ct e => ∀ α' H' σ', Step α H α' H' → Good K B α' h H' → EnvR K α' H' e σ' → D.ct σ' H'
  | .rt z => ∀ α' H' v L, Psts K B α H α' H' h [z] [v] L → D.rt v H'
def tS (K : PySem.W.Frag) (B : List Nat) (m : Env → M Fl) : TS := fun D σ H => ∃ env α h f h', Good K B α h H ∧ EnvR K α H env σ ∧ m env h = some (f, h') ∧ FlOk K B α H f h' D
theorem Psts.base {K : PySem.W.Frag} {B : List Nat} {α0 α1 α : List Addr} {H0 H1 H : Hp} {h : Hs} {zs : List PV} {vs : List V} {L : List Addr} (s : Step α0 H0 α1 H1) (p : Psts K B α1 H1 α H h zs vs L) : Psts K B α0 H0 α H h zs vs L :=
  ⟨s.trans p.step, p.good, p.rel, p.nd, p.out, fun a ha => s.none_back (p.fr a ha)⟩
theorem FlOk.later {K : PySem.W.Frag} {B : List Nat} {α α1 : List Addr} {H H1 : Hp} {f : Fl} {h : Hs} {D : Ends} (k : FlOk K B α H f h D) (s : Step α H α1 H1) : FlOk K B α1 H1 f h D := by
  cases f with
  | nx e => exact fun α' H' σ' s' g er => k α' H' σ' (s.trans s') g er
  | bk e => exact fun α' H' σ' s' g er => k α' H' σ' (s.trans s') g er
  | ct e => exact fun α' H' σ' s' g er => k α' H' σ' (s.trans s') g er
  | rt z => exact fun α' H' v L p => k α' H' v L (p.base s)
section
variable {X : Cx} {K : PySem.W.Frag} {B : List Nat} {fb : Nat} {st : Stmt} {sts sts2 : List Stmt} {ms ms2 : Env → M Fl} {a b c tg iter : Expr} {ma mb mc : Env → M PV} {pos : Pos} {t : T} {mi : Env → M ItV}
theorem s_nil : PSs X [] (tS K B fun env => M.ret (.nx env)) := pssI pss_nil fun D σ H ⟨env, α, h, f, h', g, er, e, k⟩ => by
  obtain ⟨rfl, rfl⟩ := ret_some e
  exact k α H σ .refl g er
def mThen (m m2 : Env → M Fl) : Env → M Fl := fun env => M.bnd (m env) fun f => match f with
  | .nx e => m2 e
  | f => M.ret f
theorem s_cons (h1 : PS X st (tS K B ms)) (h2 : PSs X sts (tS K B ms2)) : PSs X (st :: sts) (tS K B (mThen ms ms2)) :=
  pssI (pss_cons h1 h2) fun D σ H ⟨env, α, h, f, h', g, er, e, k⟩ => by
    obtain ⟨f1, h1, e1, e2⟩ := bnd_some e
    refine ⟨env, α, h, f1, h1, g, er, e1, ?_⟩
    cases f1 with
    | nx e => exact fun α' H' σ' s' g' er' => ⟨e, α', h1, f, h', g', er', e2, k.later s'⟩
    | bk e =>
      obtain ⟨rfl, rfl⟩ := ret_some e2
      exact k
    | ct e =>
      obtain ⟨rfl, rfl⟩ := ret_some e2
      exact k
    | rt z =>
      obtain ⟨rfl, rfl⟩ := ret_some e2
      exact k
theorem s_pass : PS X (.Pass pos) (tS K B fun env => M.ret (.nx env)) := psI ps_pass fun D σ H ⟨env, α, h, f, h', g, er, e, k⟩ => by
  obtain ⟨rfl, rfl⟩ := ret_some e
  exact k α H σ .refl g er
theorem s_break : PS X (.Break pos) (tS K B fun env => M.ret (.bk env)) := psI ps_break fun D σ H ⟨env, α, h, f, h', g, er, e, k⟩ => by
  obtain ⟨rfl, rfl⟩ := ret_some e
  exact k α H σ .refl g er
theorem s_cont : PS X (.Continue pos) (tS K B fun env => M.ret (.ct env)) := psI ps_continue fun D σ H ⟨env, α, h, f, h', g, er, e, k⟩ => by
  obtain ⟨rfl, rfl⟩ := ret_some e
  exact k α H σ .refl g er
theorem s_ex (ha : PE X a (tM K B ma)) (hs : swapsWith a none pos.line X.env = pure false) : PS X (.Expr a pos) (tS K B fun env => M.bnd (ma env) fun _ => M.ret (.nx env)) :=
  psI (ps_expr ha hs) fun D σ H ⟨env, α, h, f, h', g, er, e, k⟩ => by
    obtain ⟨v, h1, e1, e2⟩ := bnd_some e
    obtain ⟨rfl, rfl⟩ := ret_some e2
    exact ⟨env, α, h, v, _, g, er, e1, fun α1 H1 u L p => k α1 H1 σ p.step p.good (er.later g p.step)⟩
theorem s_ret (ha : PE X a (tM K B ma)) : PS X (.Return (some a) pos) (tS K B fun env => M.bnd (ma env) fun v => M.ret (.rt v)) :=
  psI (ps_ret ha) fun D σ H ⟨env, α, h, f, h', g, er, e, k⟩ => by
    obtain ⟨v, h1, e1, e2⟩ := bnd_some e
    obtain ⟨rfl, rfl⟩ := ret_some e2
    exact ⟨env, α, h, v, _, g, er, e1, k⟩
theorem s_retn : PS X (.Return none pos) (tS K B fun _ => M.ret (.rt (.d .non))) := psI ps_retN fun D σ H ⟨env, α, h, f, h', g, er, e, k⟩ => by
  obtain ⟨rfl, rfl⟩ := ret_some e
  exact k _ _ _ _ ((Psts.nil g).dat .non)
theorem s_if (hc : PT X c (tMB K B (mB mc))) (h1 : PSs X sts (tS K B ms)) (h2 : PSs X sts2 (tS K B ms2)) : PS X (.If c sts sts2 pos) (tS K B fun env => M.bnd (mc env) fun x => M.bnd (boolV x) fun k => if k then ms env else ms2 env) :=
  psI (ps_if hc h1 h2) fun D σ H ⟨env, α, h, f, h', g, er, e, k⟩ => by
    obtain ⟨x, h1, e1, e⟩ := bnd_some e
    obtain ⟨b, h2, e2, e3⟩ := bnd_some e
    refine ⟨env, α, h, b, h2, g, er, by show M.bnd (mc env) boolV h = _; unfold M.bnd; rw [e1]; exact e2, fun α1 H1 s1 g1 => ?_⟩
    cases b with
    | true => exact iteT ⟨env, α1, h2, f, h', g1, er.later g s1, e3, k.later s1⟩
    | false => exact iteF ⟨env, α1, h2, f, h', g1, er.later g s1, e3, k.later s1⟩
def mAsg (ma : Env → M PV) (t : T) : Env → M Fl := fun env => M.bnd (ma env) fun v => M.bnd (bindT t v env) fun env' => M.ret (.nx env')
theorem asg_read {D : Ends} {σ : L2.St} {H : Hp} (x : tS K B (mAsg ma t) D σ H) : tAsg (tM K B ma) (tT K B t) D σ H := by
  obtain ⟨env, α, h, f, h', g, er, e, k⟩ := x
  obtain ⟨v, h1, e1, e⟩ := bnd_some e
  obtain ⟨env', h2, e2, e3⟩ := bnd_some e
  obtain ⟨rfl, rfl⟩ := ret_some e3
  exact ⟨env, α, h, v, h1, g, er, e1, fun α1 H1 u L p => ⟨α, H, α1, h1, env, v, L, env', _, p, er.later g p.step, e2, fun α' σ' s' g' er' _ _ => k α' H1 σ' s' g' er'⟩⟩
theorem s_asg (ha : PE X a (tM K B ma)) (hg : PG X tg (tT K B t)) (hs : swapsWithSole [tg] a pos.line X.env = pure false) (hw : swappedStores [tg] a X.env = pure none) (h1 : (assignEach [tg] X.env).map (·.2) = [assign tg X.env]) : PS X (.Assign [tg] a pos) (tS K B (mAsg ma t)) :=
  psI (ps_asg ha hg hs hw h1) fun D σ H x => asg_read x
theorem s_setC {i : Nat} {y : Str} {py : Pos} {elt : Expr} {ifs : List Expr} {scope : Scope} {own : List (Str × Nat)} {mt : Env → M Bool} {me : Env → M PV} {spos : Pos} (hc : X.calm = true) (hN : X.N.Nodup) (hy : X.N[i]? = some y) (hyl : X.env.scope.names.lookup y = some .local)
    (hsw : swapsWith (.ListComp elt [⟨tg, iter, ifs, 0⟩] scope pos) (some (.Name y py)) spos.line X.env = pure true) (hi : PI X tg iter (tIt X.K B mi)) (ok : BlkOk X.N X.env.scope scope own) (hsl : ∀ i ∈ t.slots, i ∈ own.map (·.2))
    (hg : ∀ (s : Shared) (H : Hp) (C : Addr) (cl : List (Str × Addr)) (fp : List Addr), PG (X.blk s H scope (compEnvC scope cl C X.env) fp) tg (tT X.K B t)) (ht : ∀ (s : Shared) (H : Hp) (C : Addr) (cl : List (Str × Addr)) (fp : List Addr), PTs (X.blk s H scope (compEnvC scope cl C X.env) fp) ifs (tMB X.K B mt))
    (he : ∀ (s : Shared) (H : Hp) (C : Addr) (cl : List (Str × Addr)) (fp : List Addr), PE (X.blk s H scope (compEnvC scope cl C X.env) fp) elt (tM X.K B me)) (hs : ∀ x, foldedSetIterable iter X.env x = pure x) :
    PS X (.Assign [.Name y py] (.ListComp elt [⟨tg, iter, ifs, 0⟩] scope pos) spos) (tS X.K B (mAsg (mComp mi t (own.map (·.2)) mt me) (.nm i))) :=
  psI (ps_setLc hc hN hy hyl hsw hi ok hg ht he hs) fun D σ H x => by
    obtain ⟨env, α, h, f, h', g, er, e, k⟩ := x
    obtain ⟨v, h1, e1, e⟩ := bnd_some e
    obtain ⟨env', h2, e2, e3⟩ := bnd_some e
    obtain ⟨rfl, rfl⟩ := ret_some e3
    refine comp_read hsl ⟨env, α, h, v, h1, g, er, e1, fun α1 H1 u L p => ?_⟩
    unfold bindT at e2
    split at e2
    · cases e2
      obtain ⟨α', p1, hix, _⟩ := p.conv
      exact k α' H1 _ p1.step p1.good (((er.later g p.step).same hix).set p1.one)
    · cases e2
/-- x = {k: v for ..} -/
theorem ps_setDcL {i : Nat} {y : Str} {py : Pos} {kx vx tg iter : Expr} {ifs : List Expr} {scope : Scope} {own : List (Str × Nat)} {pos spos : Pos} {wi : TI} {g : TG} {tt : TT} {tk tv : TE} {X : Cx} (hc : X.calm = true) (hN : X.N.Nodup) (hy : X.N[i]? = some y) (hyl : X.env.scope.names.lookup y = some .local)
    (hsw : swapsWith (.DictComp kx vx [⟨tg, iter, ifs, 0⟩] scope pos) (some (.Name y py)) spos.line X.env = pure true) (hi : PI X tg iter wi) (ok : BlkOk X.N X.env.scope scope own)
    (hg : ∀ (s : Shared) (H : Hp) (C : Addr) (cl : List (Str × Addr)) (fp : List Addr), PG (X.blk s H scope (compEnvC scope cl C X.env) fp) tg g) (ht : ∀ (s : Shared) (H : Hp) (C : Addr) (cl : List (Str × Addr)) (fp : List Addr), PTs (X.blk s H scope (compEnvC scope cl C X.env) fp) ifs tt)
    (hk : ∀ (s : Shared) (H : Hp) (C : Addr) (cl : List (Str × Addr)) (fp : List Addr), PE (X.blk s H scope (compEnvC scope cl C X.env) fp) kx tk) (hv : ∀ (s : Shared) (H : Hp) (C : Addr) (cl : List (Str × Addr)) (fp : List Addr), PE (X.blk s H scope (compEnvC scope cl C X.env) fp) vx tv) (hs : ∀ x, foldedSetIterable iter X.env x = pure x) :
    PS X (.Assign [.Name y py] (.DictComp kx vx [⟨tg, iter, ifs, 0⟩] scope pos) spos) (tAsg (fun σ H Q => tDc wi g tt tk tv (own.map (·.2)) σ H (dkQ Q)) (gName i)) := by
  refine ⟨fun pins s σ H D I h => ?_⟩
  rw [exec_Assign_Name_used _ _ _ _ hsw]
  refine wpAny_bind (wpAny_standAt (wpAny_bind ?_))
  show wpAny _ X.A (do let _ ← comprehension (.DictComp kx vx [⟨tg, iter, ifs, 0⟩] scope pos) scope X.env (firstIterPos [⟨tg, iter, ifs, 0⟩] pos) newDict false (eval iter X.env) (some (assign (.Name y py) X.env))) _ _ s
  have h : tDc wi g tt tk tv (own.map (·.2)) σ H (dkQ fun x H1 => gName i x σ H1 D.nx) := h
  refine wpAny_bind (thn (dc_core (Qf := fun _ s' => SP X pins D .next s') hc hN I hi ok hg ht hk hv hs h fun L C s' m H' I' q hn f => ?_) fun _ s' hq => wpAny_pure (wpAny_pure hq))
  obtain ⟨L', kvs, eL, hD, q⟩ := q
  cases eL
  obtain ⟨o, I2⟩ := I'.lock hD trivial
  have f' : FpOk X pins (upd H' L (.frz o (.dK kvs))) C := by
    obtain ⟨f0, f1, f2, f3, f4, f5⟩ := f
    refine ⟨?_, f1, f2, f3, f4, f5⟩
    rw [upd_ne (fun z => by rw [z, hD] at f0; cases f0)]
    exact f0
  show wpAny _ _ (assign (.Name y py) X.env (.ref L)) _ _ _
  refine wpAny_assign_Name (store_ok2 (v := V.ref L) I2 hN hy (.inl hyl) rfl (fun s2 I2 ⟨a, sb, ha⟩ => ?_) (.inr hyl))
  obtain ⟨f0, f1, f2, f3, f4, f5⟩ := f'
  have haC : C ≠ a := by
    rcases ha with z | z
    · rw [z]; exact f1
    · exact fun e => f4 y a z e.symm
  refine ⟨m, hn.sameBut sb haC, fun h3 sb3 => ?_⟩
  exact ⟨_, _, I2.turned (t' := s2.toks) (fun b o hb e => (sb3.2 b hb).trans e) f0 f1 f3 f4 f5, q o⟩
theorem s_setD {i : Nat} {y : Str} {py : Pos} {kx vx tg iter : Expr} {ifs : List Expr} {scope : Scope} {own : List (Str × Nat)} {mt : Env → M Bool} {mk mv : Env → M PV} {mi : Env → M ItV} {t : T} {pos spos : Pos} {X : Cx} {B : List Nat} (hc : X.calm = true) (hN : X.N.Nodup) (hy : X.N[i]? = some y) (hyl : X.env.scope.names.lookup y = some .local)
    (hsw : swapsWith (.DictComp kx vx [⟨tg, iter, ifs, 0⟩] scope pos) (some (.Name y py)) spos.line X.env = pure true) (hi : PI X tg iter (tIt X.K B mi)) (ok : BlkOk X.N X.env.scope scope own) (hsl : ∀ i ∈ t.slots, i ∈ own.map (·.2))
    (hg : ∀ (s : Shared) (H : Hp) (C : Addr) (cl : List (Str × Addr)) (fp : List Addr), PG (X.blk s H scope (compEnvC scope cl C X.env) fp) tg (tT X.K B t)) (ht : ∀ (s : Shared) (H : Hp) (C : Addr) (cl : List (Str × Addr)) (fp : List Addr), PTs (X.blk s H scope (compEnvC scope cl C X.env) fp) ifs (tMB X.K B mt))
    (hk : ∀ (s : Shared) (H : Hp) (C : Addr) (cl : List (Str × Addr)) (fp : List Addr), PE (X.blk s H scope (compEnvC scope cl C X.env) fp) kx (tM X.K B mk)) (hv : ∀ (s : Shared) (H : Hp) (C : Addr) (cl : List (Str × Addr)) (fp : List Addr), PE (X.blk s H scope (compEnvC scope cl C X.env) fp) vx (tM X.K B mv)) (hs : ∀ x, foldedSetIterable iter X.env x = pure x) :
    PS X (.Assign [.Name y py] (.DictComp kx vx [⟨tg, iter, ifs, 0⟩] scope pos) spos) (tS X.K B (mAsg (mDcomp mi t (own.map (·.2)) mt mk mv) (.nm i))) :=
  psI (ps_setDcL hc hN hy hyl hsw hi ok hg ht hk hv hs) fun D σ H x => by
    obtain ⟨env, α, h, f, h', g, er, e, k⟩ := x
    obtain ⟨v, h1, e1, e⟩ := bnd_some e
    obtain ⟨env', h2, e2, e3⟩ := bnd_some e
    obtain ⟨rfl, rfl⟩ := ret_some e3
    refine dcomp_read hsl ⟨env, α, h, v, h1, g, er, e1, fun α1 H1 u L p => ?_⟩
    unfold bindT at e2
    split at e2
    · cases e2
      obtain ⟨α', p1, hix, _⟩ := p.conv
      exact k α' H1 _ p1.step p1.good (((er.later g p.step).same hix).set p1.one)
    · cases e2
/-- o[i] = e -/
theorem s_sub {tpos : Pos} (hB : ∀ b ∈ B, b ≤ fb) (ha : PE X a (tM X.K B ma)) (hb : PE X b (tM X.K B mb)) (hc : PE X c (tM X.K B mc)) (hs : swapsWithSole [.Subscript b c tpos] a pos.line X.env = pure false)
    (hset : ∀ v, assign (.Subscript b c tpos) X.env v = (do
      let ov ← holding [v] (eval b X.env)
      let iv ← holding [v, ov] (eval c X.env)
      standAt tpos
      holding [v, ov, iv] (setItem ov iv v)
      release [v, ov, iv] [])) : PS X (.Assign [.Subscript b c tpos] a pos) (tS X.K B fun env => M.bnd (ma env) fun v => M.bnd (mb env) fun x => M.bnd (mc env) fun y => M.bnd (setV fb x y v) fun _ => M.ret (.nx env)) :=
  psI (ps_asg ha (pg_sub hb hc set_list hset) hs (by rfl) (by rfl)) fun D σ H ⟨env, α, h, f, h', g, er, e, k⟩ => by
    obtain ⟨v, h1, e1, e⟩ := bnd_some e
    obtain ⟨x, h2, e2, e⟩ := bnd_some e
    obtain ⟨y, h3, e3, e⟩ := bnd_some e
    obtain ⟨_, h4, e4, e5⟩ := bnd_some e
    obtain ⟨rfl, rfl⟩ := ret_some e5
    refine ⟨env, α, h, v, h1, g, er, e1, fun α1 H1 vv L1 p1 => ⟨env, α1, h1, x, h2, p1.good, er.later g p1.step, e2, fun α2 H2 vx L2 p2 => ?_⟩⟩
    have p12 := p1.app p2
    refine ⟨env, α2, h2, y, h3, p12.good, er.later g p12.step, e3, fun α3 H3 vy L3 p3 => ?_⟩
    have p123 := p12.app p3
    exact set_ok hB p123 e4 fun α4 H4 s4 g4 => k α4 H4 σ s4 g4 (er.later g s4)
theorem s_aug {i : Nat} {x : Str} {p' : Pos} {o : BOp} (hN : X.N.Nodup) (hi : X.N[i]? = some x) (hx : L2.Loc X.env.scope x) (hf : X.fn x = true ∨ X.env.scope.names.lookup x = some .local) (ho : o = .add ∨ o = .sub) (ha : PE X a (tM K B ma)) :
    PS X (.AugAssign (.Name x p') o.op a pos) (tS K B fun env => M.bnd (M.of (match env[i]? with
      | some (some v) => some v
      | _ => none)) fun v => M.bnd (ma env) fun y => M.bnd (augV o v y) fun z => M.bnd (bindT (.nm i) z env) fun e1 => M.ret (.nx e1)) := by
  have key : ∀ f, PIp X o.op (ipI f) → (∀ (u v w : PV) (h : Hs) h', augV o u v h = some (w, h') → ∃ i j, u = .d (.int i) ∧ v = .d (.int j) ∧ w = .d (.int (f i j)) ∧ h' = h) → _ := fun f hp hv =>
    psI (ps_aug hN hi hx ha hp hf (pos := pos) (pos' := p')) fun D σ H (q : tS K B (fun env => M.bnd (M.of (match env[i]? with
      | some (some v) => some v
      | _ => none)) fun v => M.bnd (ma env) fun y => M.bnd (augV o v y) fun z => M.bnd (bindT (.nm i) z env) fun e1 => M.ret (.nx e1)) D σ H) => by
      obtain ⟨env, α, h, f, h', g, er, e, k⟩ := q
      obtain ⟨v, h1, e1, e⟩ := bnd_some e
      obtain ⟨y, h2, e2, e⟩ := bnd_some e
      obtain ⟨z, h3, e3, e⟩ := bnd_some e
      obtain ⟨env', h4, e4, e5⟩ := bnd_some e
      obtain ⟨rfl, rfl⟩ := ret_some e5
      obtain ⟨i1, j1, rfl, rfl, rfl, rfl⟩ := hv _ _ _ _ _ e3
      obtain ⟨o1, rfl⟩ := of_some e1
      split at o1
      · rename_i v' ev
        cases o1
        obtain ⟨u, eu, r⟩ := er.get i _ ev
        obtain ⟨rfl, _⟩ := r.int_inv
        refine ⟨_, eu, env, α, _, _, _, g, er, e2, fun α1 H1 w L p => ?_⟩
        obtain ⟨rfl, _⟩ := p.one.int_inv
        refine ⟨i1, j1, rfl, rfl, ?_⟩
        unfold bindT at e4
        split at e4
        · cases e4
          exact k α1 H1 _ p.step p.good ((er.later g p.step).set (.d (.int _)))
        · cases e4
      · cases o1
  rcases ho with rfl | rfl
  · refine key _ ip_add fun u v w h h' e => ?_
    unfold augV at e
    split at e <;> first | (cases e; exact ⟨_, _, rfl, rfl, rfl, rfl⟩) | cases e
    rename_i q
    cases q
  · refine key _ ip_sub fun u v w h h' e => ?_
    unfold augV at e
    split at e <;> first | (cases e; exact ⟨_, _, rfl, rfl, rfl, rfl⟩) | cases e
    rename_i q
    cases q
end
end Pe
/-! Pe: {elt for target in iter if ..} of whole numbers, and how many they are. -/
namespace Pe
open PySem PySem.Spec PyProof.Rows L2
/-- what such a set asks: D is the set in the making -/
def tSi (w : World) (wi : TI) (g : TG) (tt : TT) (te : TE) (vs : List Nat) : TE := fun σ H Q =>
  wi σ H fun J H1 =>
    ∀ D, H1 D = none →
      ∃ W : Nat → Nat → Hp → Prop,
        (∃ m, W 0 m (upd H1 D (SetO w D (fun _ => false) 0))) ∧
        ∀ i m H, W i m H →
          (J.stop i H ∧ Q (.ref D) H) ∨
          (J.go i H ∧ ∃ Nx : Hp → Prop,
            (∀ H', Nx H' → ∃ m', m' < m ∧ W (i + 1) m' H') ∧
            ∀ x H', J.yld i H x H' →
              g x (wipe σ vs) H' fun σ2 H2 =>
                wipe σ2 vs = wipe σ vs ∧
                tt σ2 H2 fun b H3 =>
                  if b = true then te σ2 H3 fun y H4 => rSAdd w (.ref D) [y] H4 fun _ H5 => Nx H5
                  else Nx H3)
section
variable {X : Cx}
theorem pe_si {elt tg iter : Expr} {ifs : List Expr} {scope : Scope} {own : List (Str × Nat)} {pos : Pos} {wi : TI} {g : TG} {tt : TT} {te : TE}
    (calm : X.calm = true) (nodup : X.N.Nodup) (src : PI X tg iter wi) (blk : BlkOk X.N X.env.scope scope own)
    (pg : ∀ (s : Shared) (H : Hp) (C : Addr) (cl : List (Str × Addr)) (fp : List Addr), PG (X.blk s H scope (compEnvC scope cl C X.env) fp) tg g)
    (pt : ∀ (s : Shared) (H : Hp) (C : Addr) (cl : List (Str × Addr)) (fp : List Addr), PTs (X.blk s H scope (compEnvC scope cl C X.env) fp) ifs tt)
    (pe : ∀ (s : Shared) (H : Hp) (C : Addr) (cl : List (Str × Addr)) (fp : List Addr), PE (X.blk s H scope (compEnvC scope cl C X.env) fp) elt te)
    (plain : ∀ x, foldedSetIterable iter X.env x = pure x) :
    PE X (.SetComp elt [⟨tg, iter, ifs, 0⟩] scope pos) (tSi X.w wi g tt te (own.map (·.2))) := by
  constructor
  intro pins s0 σ H0 Q I0 ask
  rw [PpSet.eval_SetComp]
  have cells : ∀ y ∈ scope.names, y.2 = .free → ∃ c, X.env.cells.lookup y.1 = some c := by
    intro y hy e
    exact (blk.free y hy e).elim (fun k => I0.ok.has _ (.inl k)) fun k => I0.ok.has _ (.inr k)
  refine wpAny_comprehension_free rfl plain (closure_ok cells) blk.kind (fun y hy e => by rw [blk.uniq y hy, e]) ?_
  refine thn (src.run pins s0 σ H0 _ I0 ask) fun _ s1 h1 => thn h1 fun _ s2 h2 => ?_
  obtain ⟨it, fp, tn, J, H2, rfl, I2, T, at0, free2, rest⟩ := h2
  refine PpSet.newSet_ok (newEnv_comp ?_)
  -- the new set
  let obj : Obj := { cls := .type "set", dict := none, data := .set #[] 0 (.fresh 0 0 (!X.w.params.followText "set-order")) }
  obtain ⟨W, ⟨m0, w0⟩, turns⟩ := rest s2.heap.objs.size (I2.hok.fresh (Nat.le_refl _))
  have none2 : H2 s2.heap.objs.size = none := I2.hok.fresh (Nat.le_refl _)
  generalize hD : s2.heap.objs.size = D at *
  generalize hH3 : upd H2 D (SetO X.w D (fun _ => false) 0) = H3 at *
  have push : ∀ b o, s2.heap.get? b = some o → (s2.heap.push obj).get? b = some o := fun b o e => Heap.get?_push_of_some _ e
  have I3 : Inv X pins σ H3 { s2 with heap := s2.heap.push obj } := by
    rw [← hH3]
    refine I2.laid (t' := s2.toks) push (Nat.le_of_eq hD) ?_
    have new := setR_fresh (h := s2.heap) X.w
    rw [hD] at new
    exact setO_new new
  generalize hs3 : ({ s2 with heap := s2.heap.push obj } : Shared) = s3 at *
  have heap3 : s3.heap = s2.heap.push obj := by rw [← hs3]
  have foot : ∀ b ∈ fp, FpOk X pins H3 b ∧ b < s3.heap.objs.size := by
    intro b hb
    obtain ⟨o, e, _⟩ := T.obj _ _ at0 b hb
    have lt : b < D := by
      rw [← hD]
      exact Heap.lt_size e
    refine ⟨⟨?_, (free2 b hb).2⟩, ?_⟩
    · rw [← hH3, upd_ne (Nat.ne_of_lt lt)]
      exact (free2 b hb).1
    · rw [heap3, Heap.size_push, hD]
      exact Nat.lt_succ_of_lt lt
  have at3 : tn 0 s3.heap := T.keep _ _ _ at0 fun b _ o e => by
    rw [heap3]
    exact push b o e
  have I4 := block_start I3 blk nodup foot
  let C := s3.heap.objs.size
  let cl := cellsFrom (C + 1) scope.names (cloFrom X.env.cells scope.names [])
  have G := pg s3 H3 C cl fp
  have Ts := pt s3 H3 C cl fp
  have El := pe s3 H3 C cl fp
  show codeAny _ _ (.compStart (.SetComp elt [⟨tg, iter, ifs, 0⟩] scope pos) 0 (.ref it) (.ref D) (compEnvC scope cl C X.env)) (compPost (model X.prog X.w) X.A X.xe none _ (.ref D) C) { s3 with heap := pushCells (s3.heap.push { cls := .type "dict", data := .dict #[] }) scope.names }
  have loc : (compEnvC scope cl C X.env).locals = C := rfl
  generalize hce : compEnvC scope cl C X.env = ce at *
  generalize hs4 : ({ s3 with heap := pushCells (s3.heap.push { cls := .type "dict", data := .dict #[] }) scope.names } : Shared) = s4 at *
  have at4 : tn 0 s4.heap := T.keep _ _ _ at3 fun b _ o e => by
    rw [← hs4]
    exact pushCells_keeps _ _ _ _ (Heap.get?_push_of_some _ e)
  have still : ∀ {σ' : L2.St} {H' : Hp} {s' : Shared}, Inv (X.blk s3 H3 scope ce fp) [] σ' H' s' → (∀ b ∈ fp, H' b = none) → ∀ b ∈ fp, FpOk (X.blk s3 H3 scope ce fp) [] H' b := by
    intro σ' H' s' I' none b hb
    refine ⟨none b hb, (I'.ok.exf b hb).1, I'.ok.exfs b hb, .inl hb, fun x c e => (I'.ok.exf b hb).2 x c e, fun p hp => ?_⟩
    cases (show p ∈ ([] : List (Addr × Obj)) from hp)
  let Turn : Nat → Shared → Prop := fun n s' => ∃ i H', Inv (X.blk s3 H3 scope ce fp) [] (wipe σ (own.map (·.2))) H' s' ∧ tn i s'.heap ∧ (∀ b ∈ fp, H' b = none) ∧ W i n H'
  refine PpSet.codeAny_compStart_set ?_ (T.self X.A 0 _ _ _ at4 ?_) <;>
  · refine PpSet.compLoopS_any Turn ?_ m0 ⟨0, H3, I4, at4, fun b hb => (foot b hb).1.1, w0⟩
    rintro n s5 ⟨i, H5, I5, at5, none5, w5⟩
    rcases turns i n H5 w5 with ⟨stop, q⟩ | ⟨go, Nx, less, step⟩
    · -- the end
      refine thnF (T.done (X.blk s3 H3 scope ce fp) rfl rfl rfl calm i [] s5 _ H5 (fun _ _ => False) I5 (still I5 none5) at5 stop) fun r s6 hr => ?_
      obtain ⟨rfl, I6⟩ := hr
      have back : Inv X pins σ H5 s6 := I3.call' (ch := fp) I6.os I6.base I6.hok I6.bare fun b hb => by
        obtain ⟨_, a1, a2, a3, a4, a5⟩ := (foot b hb).1
        exact ⟨a3, a1, a4, a5⟩
      have noneC : H5 C = none := by
        have z : H5 ce.locals = none := I6.free
        rw [loc] at z
        exact z
      obtain ⟨m, ns, _⟩ := I6.loc
      have ns : s6.heap.Ns ce.locals m := ns
      rw [loc] at ns
      refine ⟨m, ns, fun h'' sb => ?_⟩
      obtain ⟨f0, f1, f2, f3, f4, f5⟩ := I3.fpOk (b := C) (Nat.le_refl _) noneC
      exact ⟨.ref D, H5, back.turned (t' := s6.toks) (fun b o hb e => (sb.2 b hb).trans e) f0 f1 f3 f4 f5, rfl, q⟩
    · -- one more
      refine thnF (T.item (X.blk s3 H3 scope ce fp) rfl rfl rfl calm i [] s5 _ H5 (fun _ _ => False) I5 (still I5 none5) at5 go) fun r s6 hr => ?_
      obtain ⟨u, rfl, h6⟩ := hr
      refine thnF h6 fun _ s7 h7 => ?_
      obtain ⟨x, H7, I7, r7, y7, at7, none7⟩ := h7
      have J7 := I7.pinned (still I7 none7) (T.obj _ _ at7)
      refine thnF (G.run _ s7 _ H7 x u _ J7 r7 (step x H7 y7)) fun _ s8 h8 => ?_
      obtain ⟨σ8, H8, I8, same8, q8⟩ := h8
      refine thnF (Ts.run _ s8 σ8 H8 _ I8 q8) fun b s9 h9 => ?_
      obtain ⟨H9, I9, q9⟩ := h9
      have ends : ∀ {s' : Shared} {H' : Hp}, Inv (X.blk s3 H3 scope ce fp) ([] ++ pinsAt fp s7.heap) σ8 H' s' → Nx H' → ∃ m, m < n ∧ Turn m s' := by
        intro s' H' I' nx
        obtain ⟨m', lt, w'⟩ := less H' nx
        have pinned : ∀ b ∈ fp, ∀ o, s7.heap.get? b = some o → s'.heap.get? b = some o ∧ H' b = none := by
          intro b hb o e
          have z := I'.pin (b, o) (List.mem_append_right _ (List.mem_append_right _ (mem_pinsAt hb e)))
          exact ⟨z.1, z.2.1⟩
        refine ⟨m', lt, i + 1, H', (I'.unpinned (pins := [])).weak (by rw [← same8, wipe_length]) ?_, T.keep _ _ _ at7 fun b hb o e => (pinned b hb o e).1, ?_, w'⟩
        · intro j v e
          rw [← same8] at e
          exact (wipe_some e).1
        · intro b hb
          obtain ⟨o, e, _⟩ := T.obj _ _ at7 b hb
          exact (pinned b hb o e).2
      cases b with
      | false =>
        rw [if_neg Bool.false_ne_true] at q9
        rw [if_neg Bool.false_ne_true]
        exact ends I9 q9
      | true =>
        rw [if_pos rfl] at q9
        rw [if_pos rfl]
        refine thnF (El.run _ s9 σ8 H9 _ I9 q9) fun z s10 h10 => ?_
        obtain ⟨y, H10, I10, r10, q10⟩ := h10
        refine thnF (mt_sadd (X := X.blk s3 H3 scope ce fp) _ s10 σ8 H10 (.ref D) [y] (.ref D) [z] _ I10 rfl (.cons r10 .nil) q10) fun _ s11 h11 => ?_
        obtain ⟨_, H11, I11, _, nx⟩ := h11
        exact ends I11 nx
end
end Pe
/-! Pe: comprehensions with two generators; how many different whole numbers. -/
namespace Pe
open PySem PySem.Spec PyProof.Rows L2
def mIn (n : Nat) (t1 : T) (own1 : List Nat) (mt1 : Env → M Bool) (me : Env → M PV) (env1 : Env) : PV → M Unit := fun y => M.bnd (bindT t1 y (wipeE env1 own1)) fun env2 => M.bnd (mt1 env2) fun k1 => if k1 then M.bnd (me env2) fun z => pushC n z else M.ret ()
def mOut (n : Nat) (t : T) (own : List Nat) (mt : Env → M Bool) (mi1 : Env → M ItV) (t1 : T) (own1 : List Nat) (mt1 : Env → M Bool) (me : Env → M PV) (env : Env) : PV → M Unit := fun x => M.bnd (bindT t x (wipeE env own)) fun env1 => M.bnd (mt env1) fun k =>
  if k then M.bnd (mi1 env1) fun iv1 => fun h1 => uloop (mIn n t1 own1 mt1 me env1) iv1 (iv1.fuel h1) 0 h1 else M.ret ()
def mC2 (mi : Env → M ItV) (t : T) (own : List Nat) (mt : Env → M Bool) (mi1 : Env → M ItV) (t1 : T) (own1 : List Nat) (mt1 : Env → M Bool) (me : Env → M PV) : Env → M PV := fun env => M.bnd (mi env) fun iv => fun h =>
  match uloop (mOut h.length t own mt mi1 t1 own1 mt1 me env) iv (iv.fuel h) 0 (h ++ [.lst []]) with
  | some (_, h1) => some (.ref h.length, h1)
  | none => none
theorem pushC_some {n : Nat} {y : PV} {h h' : Hs} {u : Unit} (e : pushC n y h = some (u, h')) : ∃ d xs, y = .d d ∧ h[n]? = some (.lst xs) ∧ xs.length < sizeLine ∧ h' = h.set n (.lst (xs ++ [.d d])) := by
  unfold pushC at e
  split at e
  · rename_i d
    split at e
    · rename_i xs q
      split at e
      · rename_i z
        cases e
        exact ⟨d, xs, rfl, q, z, rfl⟩
      · cases e
    · cases e
  · cases e
section
variable {X : Cx} {B : List Nat} {elt tg iter tg1 iter1 : Expr} {ifs ifs1 : List Expr} {scope : Scope} {own : List (Str × Nat)} {own1 : List Nat} {pos : Pos} {mi mi1 : Env → M ItV} {t t1 : T} {mt mt1 : Env → M Bool} {me : Env → M PV}
theorem c2_read {σ : L2.St} {H : Hp} {Q : VK} (hsl : ∀ i ∈ t.slots, i ∈ own.map (·.2)) (hs1 : ∀ i ∈ t1.slots, i ∈ own1) (tt : tM X.K B (mC2 mi t (own.map (·.2)) mt mi1 t1 own1 mt1 me) σ H Q) :
    tLc2 (tIt X.K B mi) (tT X.K B t) (tMB X.K B mt) (tIt X.K B mi1) (tT X.K B t1) (tMB X.K B mt1) (tM X.K B me) (own.map (·.2)) own1 σ H Q := by
  obtain ⟨env, α, h, z, h', g, er, e, q⟩ := tt
  obtain ⟨iv, h1, e1, e⟩ := bnd_some e
  refine ⟨env, α, h, iv, h1, g, er, e1, fun α1 H1 J s1 g1 wk D nD => ?_⟩
  cases ec : uloop (mOut h1.length t (own.map (·.2)) mt mi1 t1 own1 mt1 me env) iv (iv.fuel h1) 0 (h1 ++ [.lst []]) with
  | none =>
    rw [ec] at e
    cases e
  | some r =>
  obtain ⟨_, hf⟩ := r
  rw [ec] at e
  cases e
  have oD : D ∉ α1 := fun z => by
    obtain ⟨_, _, us, _, _, e⟩ := g1.of_addr z
    rw [nD] at e
    cases e
  have gD : Good X.K B (α1 ++ [D]) (h1 ++ [.lst []]) (upd H1 D (.lst [])) := (g1.fresh nD).push oD upd_same (Nat.zero_le _) .nil
  have sD : Step α1 H1 (α1 ++ [D]) (upd H1 D (.lst [])) := by
    have f : Step α1 H1 α1 (upd H1 D (.lst [])) := Step.fresh nD
    exact ⟨⟨[D], rfl, fun a ha => by rw [List.mem_singleton.mp ha]; exact nD⟩, f.keep, f.there⟩
  have ixD : (α1 ++ [D])[h1.length]? = some D := by
    rw [← g1.len]
    exact List.getElem?_concat_length ..
  refine ⟨fun i m H' => ∃ αi hi, Step (α1 ++ [D]) (upd H1 D (.lst [])) αi H' ∧ Good X.K B αi hi H' ∧ uloop (mOut h1.length t (own.map (·.2)) mt mi1 t1 own1 mt1 me env) iv m i hi = some ((), h'), ⟨iv.fuel h1, α1 ++ [D], _, .refl, gD, ec⟩, ?_⟩
  rintro i m H' ⟨αi, hi, S, gi, ce⟩
  have wi := wk αi H' hi (sD.trans S) gi i
  have stop : iv.at hi i = some none → h' = hi → J.stop i H' ∧ Q (.ref D) H' := fun ea e2 => by
    subst e2
    exact ⟨wi.1 ea, q αi H' (.ref D) [] ⟨s1.trans (sD.trans S), gi, (PR.ref (S.ix _ _ ixD)).ones, List.nodup_nil, fun _ z => absurd z List.not_mem_nil, fun _ z => absurd z List.not_mem_nil⟩⟩
  cases m with
  | zero =>
    unfold uloop at ce
    split at ce
    · rename_i ea
      cases ce
      exact .inl (stop ea rfl)
    · cases ce
  | succ m =>
    unfold uloop at ce
    split at ce
    · rename_i ea
      cases ce
      exact .inl (stop ea rfl)
    · rename_i x ea
      refine .inr ⟨(wi.2 x ea).1, fun H'' => ∃ αi hi, Step (α1 ++ [D]) (upd H1 D (.lst [])) αi H'' ∧ Good X.K B αi hi H'' ∧ uloop (mOut h1.length t (own.map (·.2)) mt mi1 t1 own1 mt1 me env) iv m (i + 1) hi = some ((), h'), fun H'' n => ⟨m, Nat.lt_succ_self m, n⟩, fun v H2 yl => ?_⟩
      obtain ⟨kp, rx⟩ := (wi.2 x ea).2 v H2 yl
      have st2 : Step αi H' αi H2 := Step.of_kept kp
      have g2 := gi.mono kp
      have S2 := S.trans st2
      split at ce
      · rename_i _ h3 eo
        obtain ⟨env1, h2, eb, eo⟩ := bnd_some eo
        obtain ⟨k, h4, et, eo⟩ := bnd_some eo
        have er2 : EnvR X.K αi H2 (wipeE env (own.map (·.2))) (L2.wipe σ (own.map (·.2))) := (er.later g (s1.trans (sD.trans S2))).wipe _
        refine ⟨αi, H2, αi, hi, _, x, [], env1, h2, ⟨.refl, g2, rx.ones, List.nodup_nil, fun _ z => absurd z List.not_mem_nil, fun _ z => absurd z List.not_mem_nil⟩, er2, eb, fun α3 σ3 s3 g3 er3 sb3 _ => ?_⟩
        cases k with
        | false =>
          obtain ⟨_, rfl⟩ := ret_some eo
          refine ⟨(wipe_eq sb3.1 fun i hi => sb3.2 i fun z => hi (hsl i z)).trans wipe_wipe, env1, α3, h2, false, h3, g3, er3, et, fun α4 H4 s4 g4 => iteF ?_⟩
          exact ⟨α4, h3, (S2.trans s3).trans s4, g4, ce⟩
        | true =>
          obtain ⟨iv1, h5, ei, el⟩ := bnd_some eo
          refine ⟨(wipe_eq sb3.1 fun i hi => sb3.2 i fun z => hi (hsl i z)).trans wipe_wipe, env1, α3, h2, true, h4, g3, er3, et, fun α4 H4 s4 g4 => iteT ?_⟩
          refine ⟨env1, α4, h4, iv1, h5, g4, er3.later g3 s4, ei, fun α5 H5 J1 s5 g5 wk1 => ?_⟩
          have S5 := ((S2.trans s3).trans s4).trans s5
          have er5 : EnvR X.K α5 H5 env1 σ3 := er3.later g3 (s4.trans s5)
          refine ⟨fun j k H'' => ∃ αj hj, Step α5 H5 αj H'' ∧ Good X.K B αj hj H'' ∧ uloop (mIn h1.length t1 own1 mt1 me env1) iv1 k j hj = some ((), h3), ⟨iv1.fuel h5, α5, h5, .refl, g5, el⟩, ?_⟩
          rintro j k H6 ⟨αj, hj, T, gj, cj⟩
          have wj := wk1 αj H6 hj T gj j
          have stop1 : iv1.at hj j = some none → h3 = hj → J1.stop j H6 ∧ ∃ αi hi, Step (α1 ++ [D]) (upd H1 D (.lst [])) αi H6 ∧ Good X.K B αi hi H6 ∧ uloop (mOut h1.length t (own.map (·.2)) mt mi1 t1 own1 mt1 me env) iv m (i + 1) hi = some ((), h') := fun ea e2 => by
            subst e2
            exact ⟨wj.1 ea, αj, h3, S5.trans T, gj, ce⟩
          cases k with
          | zero =>
            unfold uloop at cj
            split at cj
            · rename_i ea1
              cases cj
              exact .inl (stop1 ea1 rfl)
            · cases cj
          | succ k =>
            unfold uloop at cj
            split at cj
            · rename_i ea1
              cases cj
              exact .inl (stop1 ea1 rfl)
            · rename_i y ea1
              refine .inr ⟨(wj.2 y ea1).1, fun H'' => ∃ αj hj, Step α5 H5 αj H'' ∧ Good X.K B αj hj H'' ∧ uloop (mIn h1.length t1 own1 mt1 me env1) iv1 k (j + 1) hj = some ((), h3), fun H'' n => ⟨k, Nat.lt_succ_self k, n⟩, fun v1 H7 yl1 => ?_⟩
              obtain ⟨kp1, ry⟩ := (wj.2 y ea1).2 v1 H7 yl1
              have st7 : Step αj H6 αj H7 := Step.of_kept kp1
              have g7 := gj.mono kp1
              have T7 := T.trans st7
              split at cj
              · rename_i _ h6 eo1
                obtain ⟨env2, h7, eb1, eo1⟩ := bnd_some eo1
                obtain ⟨k1, h8, et1, eo1⟩ := bnd_some eo1
                have er7 : EnvR X.K αj H7 (wipeE env1 own1) (L2.wipe σ3 own1) := (er5.later g5 T7).wipe _
                refine ⟨αj, H7, αj, hj, _, y, [], env2, h7, ⟨.refl, g7, ry.ones, List.nodup_nil, fun _ z => absurd z List.not_mem_nil, fun _ z => absurd z List.not_mem_nil⟩, er7, eb1, fun α8 σ8 s8 g8 er8 sb8 _ => ?_⟩
                cases k1 with
                | false =>
                  obtain ⟨_, rfl⟩ := ret_some eo1
                  refine ⟨(wipe_eq sb8.1 fun i hi => sb8.2 i fun z => hi (hs1 i z)).trans wipe_wipe, env2, α8, h7, false, h6, g8, er8, et1, fun α9 H9 s9 g9 => iteF ?_⟩
                  exact ⟨α9, h6, (T7.trans s8).trans s9, g9, cj⟩
                | true =>
                  obtain ⟨zv, h9, ey, ep⟩ := bnd_some eo1
                  refine ⟨(wipe_eq sb8.1 fun i hi => sb8.2 i fun z => hi (hs1 i z)).trans wipe_wipe, env2, α8, h7, true, h8, g8, er8, et1, fun α9 H9 s9 g9 => iteT ?_⟩
                  refine ⟨env2, α9, h8, zv, h9, g9, er8.later g8 s9, ey, fun αa Ha w M pa => ?_⟩
                  obtain ⟨d, xs, rfl, en, hz, rfl⟩ := pushC_some ep
                  have Ta := ((T7.trans s8).trans s9).trans pa.step
                  have ixa : αa[h1.length]? = some D := (S5.trans Ta).ix _ _ ixD
                  obtain ⟨vs, hD, zz, rr⟩ := pa.good.cell _ xs D en ixa
                  obtain ⟨gb, sb⟩ := pa.good.write (ys := xs ++ [.d d]) (ws := vs ++ [w]) en ixa (by rw [List.length_append]; exact hz) (rr.append (L := []) (by cases pa.one with | d hdr => exact (PR.d hdr).ones)) fun b hb hn => lts_append ((pa.good.wf b hb).2 _ _ hn en) (lts_map_d [d])
                  exact ⟨vs, hD, by rw [← rr.length]; exact hz, αa, _, Ta.trans sb, gb, cj⟩
              · cases cj
            · cases cj
      · cases ce
    · cases ce
theorem e_comp2 (hc : X.calm = true) (hN : X.N.Nodup) (hi : PI X tg iter (tIt X.K B mi)) (ok : BlkOk X.N X.env.scope scope own) (hsl : ∀ i ∈ t.slots, i ∈ own.map (·.2)) (hv : ∀ i ∈ own1, i ∈ own.map (·.2)) (hs1 : ∀ i ∈ t1.slots, i ∈ own1)
    (hg : ∀ (s : Shared) (H : Hp) (C : Addr) (cl : List (Str × Addr)) (fp : List Addr), PG (X.blk s H scope (compEnvC scope cl C X.env) fp) tg (tT X.K B t)) (ht : ∀ (s : Shared) (H : Hp) (C : Addr) (cl : List (Str × Addr)) (fp : List Addr), PTs (X.blk s H scope (compEnvC scope cl C X.env) fp) ifs (tMB X.K B mt))
    (hi1 : ∀ (s : Shared) (H : Hp) (C : Addr) (cl : List (Str × Addr)) (fp : List Addr), PI (X.blk s H scope (compEnvC scope cl C X.env) fp) tg1 iter1 (tIt X.K B mi1))
    (hg1 : ∀ (s : Shared) (H : Hp) (C : Addr) (cl : List (Str × Addr)) (fp : List Addr), PG (X.blk s H scope (compEnvC scope cl C X.env) fp) tg1 (tT X.K B t1)) (ht1 : ∀ (s : Shared) (H : Hp) (C : Addr) (cl : List (Str × Addr)) (fp : List Addr), PTs (X.blk s H scope (compEnvC scope cl C X.env) fp) ifs1 (tMB X.K B mt1))
    (he : ∀ (s : Shared) (H : Hp) (C : Addr) (cl : List (Str × Addr)) (fp : List Addr), PE (X.blk s H scope (compEnvC scope cl C X.env) fp) elt (tM X.K B me)) (hs : ∀ x, foldedSetIterable iter X.env x = pure x) (hs2 : ∀ env x, foldedSetIterable iter1 env x = pure x) :
    PE X (.ListComp elt [⟨tg, iter, ifs, 0⟩, ⟨tg1, iter1, ifs1, 0⟩] scope pos) (tM X.K B (mC2 mi t (own.map (·.2)) mt mi1 t1 own1 mt1 me)) :=
  peI (pe_lc2 hc hN hi ok hv hg ht hi1 hg1 ht1 he hs hs2) fun σ H Q tt => c2_read hsl hs1 tt
theorem s_setC2 {i : Nat} {y : Str} {py spos : Pos} (hc : X.calm = true) (hN : X.N.Nodup) (hy : X.N[i]? = some y) (hyl : X.env.scope.names.lookup y = some .local)
    (hsw : swapsWith (.ListComp elt [⟨tg, iter, ifs, 0⟩, ⟨tg1, iter1, ifs1, 0⟩] scope pos) (some (.Name y py)) spos.line X.env = pure true)
    (hi : PI X tg iter (tIt X.K B mi)) (ok : BlkOk X.N X.env.scope scope own) (hsl : ∀ i ∈ t.slots, i ∈ own.map (·.2)) (hv : ∀ i ∈ own1, i ∈ own.map (·.2)) (hs1 : ∀ i ∈ t1.slots, i ∈ own1)
    (hg : ∀ (s : Shared) (H : Hp) (C : Addr) (cl : List (Str × Addr)) (fp : List Addr), PG (X.blk s H scope (compEnvC scope cl C X.env) fp) tg (tT X.K B t)) (ht : ∀ (s : Shared) (H : Hp) (C : Addr) (cl : List (Str × Addr)) (fp : List Addr), PTs (X.blk s H scope (compEnvC scope cl C X.env) fp) ifs (tMB X.K B mt))
    (hi1 : ∀ (s : Shared) (H : Hp) (C : Addr) (cl : List (Str × Addr)) (fp : List Addr), PI (X.blk s H scope (compEnvC scope cl C X.env) fp) tg1 iter1 (tIt X.K B mi1))
    (hg1 : ∀ (s : Shared) (H : Hp) (C : Addr) (cl : List (Str × Addr)) (fp : List Addr), PG (X.blk s H scope (compEnvC scope cl C X.env) fp) tg1 (tT X.K B t1)) (ht1 : ∀ (s : Shared) (H : Hp) (C : Addr) (cl : List (Str × Addr)) (fp : List Addr), PTs (X.blk s H scope (compEnvC scope cl C X.env) fp) ifs1 (tMB X.K B mt1))
    (he : ∀ (s : Shared) (H : Hp) (C : Addr) (cl : List (Str × Addr)) (fp : List Addr), PE (X.blk s H scope (compEnvC scope cl C X.env) fp) elt (tM X.K B me)) (hs : ∀ x, foldedSetIterable iter X.env x = pure x) (hs2 : ∀ env x, foldedSetIterable iter1 env x = pure x) :
    PS X (.Assign [.Name y py] (.ListComp elt [⟨tg, iter, ifs, 0⟩, ⟨tg1, iter1, ifs1, 0⟩] scope pos) spos) (tS X.K B (mAsg (mC2 mi t (own.map (·.2)) mt mi1 t1 own1 mt1 me) (.nm i))) :=
  psI (ps_setLc2 hc hN hy hyl hsw hi ok hv hg ht hi1 hg1 ht1 he hs hs2) fun D σ H x => by
    obtain ⟨env, α, h, f, h', g, er, e, k⟩ := x
    obtain ⟨v, h1, e1, e⟩ := bnd_some e
    obtain ⟨env', h2, e2, e3⟩ := bnd_some e
    obtain ⟨rfl, rfl⟩ := ret_some e3
    refine c2_read hsl hs1 ⟨env, α, h, v, h1, g, er, e1, fun α1 H1 u L p => ?_⟩
    unfold bindT at e2
    split at e2
    · cases e2
      obtain ⟨α', p1, hix, _⟩ := p.conv
      exact k α' H1 _ p1.step p1.good (((er.later g p.step).same hix).set p1.one)
    · cases e2
/-! ### how many different whole numbers -/
def lenQ (w : World) (Q : VK) : VK := fun v H => ∃ D S n, v = .ref D ∧ H D = some (SetO w D S n) ∧ n < 4096 ∧ Q (.int n) H
theorem pe_lenO {a : Expr} {ta : TE} {p pos : Pos} (hc : X.calm = true) (hg : Gl X "len") (hm : X.mg "len" = none) (ha : PE X a ta) (na : starEach [a] X.env = (false, eval a X.env) :: starEach [] X.env) :
    PE X (.Call (.Name "len" p) [a] [] pos) (fun σ H Q => ta σ H (lenQ X.w Q)) := by
  constructor
  intro pins s σ H Q I ask
  refine Call_ (ld_blt I hg hm PySem.boot_len ?_)
  refine PyProof.Rows.callWith_builtin1 (PyProof.Rows.args_cons (thn (ha.run pins s σ H _ I ask) fun v s1 hv => PyProof.Rows.args_nil ?_) na) na rfl
  obtain ⟨x, H1, I1, r1, D, S, n, rfl, hD, hn, q⟩ := hv
  cases r1
  have R := (setO_get I1 hD).setOf (P := X.prog)
  obtain ⟨o, es, ep, t, ho, hex, hd, _, _, _, hf, hsz⟩ := R
  exact call_len_set ho hex hd hf (by rw [hsz]; omega) ⟨.int n, H1, I1.tok _, ⟨_, by rw [hsz]⟩, q⟩
theorem cloop_pre {f : PV → M (Option PV)} {iv : ItV} : ∀ {m i : Nat} {ys zs : List PV} {h h' : Hs}, cloop f iv m i ys h = some (zs, h') → ∃ ws, zs = ys ++ ws
  | 0, i, ys, zs, h, h', e => by
    unfold cloop at e
    split at e
    · cases e
      exact ⟨[], (List.append_nil _).symm⟩
    · cases e
  | m + 1, i, ys, zs, h, h', e => by
    unfold cloop at e
    split at e
    · cases e
      exact ⟨[], (List.append_nil _).symm⟩
    · split at e
      · split at e
        · obtain ⟨ws, q⟩ := cloop_pre e
          exact ⟨_ :: ws, by rw [q, List.append_assoc]; rfl⟩
        · cases e
      · exact cloop_pre e
      · cases e
    · cases e
theorem intsOf_mem : ∀ {xs : List PV} {ns : List Int}, intsOf xs = some ns → xs = ns.map fun k => PV.d (.int k)
  | [], ns, e => by
    cases e
    rfl
  | .d (.int i) :: xs, ns, e => by
    have e : (match intsOf xs with
      | some ns => some (i :: ns)
      | none => none) = some ns := e
    cases q : intsOf xs with
    | none => rw [q] at e; cases e
    | some ms =>
      rw [q] at e
      cases e
      rw [intsOf_mem q]
      rfl
  | .d (.bl _) :: _, _, e => by cases e
  | .d (.str _) :: _, _, e => by cases e
  | .d .non :: _, _, e => by cases e
  | .d (.tup _) :: _, _, e => by cases e
  | .tl _ :: _, _, e => by cases e
  | .fl _ :: _, _, e => by cases e
  | .ref _ :: _, _, e => by cases e
  | .fd _ :: _, _, e => by cases e
  | .rg _ :: _, _, e => by cases e
  | .mt _ :: _, _, e => by cases e
theorem met_snoc {ns : List Int} {k : Int} : met (ns ++ [k]) = if k ∈ met ns then met ns else met ns ++ [k] := by
  unfold met
  rw [List.foldl_append]
  rfl
theorem met_len {ns : List Int} : (met ns).length ≤ ns.length := by
  have key : ∀ (l acc : List Int), (l.foldl (fun acc x => if x ∈ acc then acc else acc ++ [x]) acc).length ≤ acc.length + l.length := by
    intro l
    induction l with
    | nil => exact fun acc => Nat.le_refl _
    | cons x l ih =>
      intro acc
      have := ih (if x ∈ acc then acc else acc ++ [x])
      rw [List.foldl_cons, List.length_cons]
      refine Nat.le_trans this ?_
      split
      · omega
      · rw [List.length_append, List.length_singleton]; omega
  have := key ns []
  rwa [List.length_nil, Nat.zero_add] at this
def mLsc (mi : Env → M ItV) (t : T) (own : List Nat) (mt : Env → M Bool) (me : Env → M PV) : Env → M PV := fun env => M.bnd (mi env) fun iv => fun h => match cloop (mItem t own mt me env) iv (iv.fuel h) 0 [] h with
  | some (ys, h1) => lenS ys h1
  | none => none
theorem lsc_read {σ : L2.St} {H : Hp} {Q : VK} (hsl : ∀ i ∈ t.slots, i ∈ own.map (·.2)) (tt : tM X.K B (mLsc mi t (own.map (·.2)) mt me) σ H Q) : tSi X.w (tIt X.K B mi) (tT X.K B t) (tMB X.K B mt) (tM X.K B me) (own.map (·.2)) σ H (lenQ X.w Q) := by
  obtain ⟨env, α, h, z, h', g, er, e, q⟩ := tt
  obtain ⟨iv, h1, e1, e⟩ := bnd_some e
  refine ⟨env, α, h, iv, h1, g, er, e1, fun α1 H1 J s1 g1 wk D nD => ?_⟩
  cases ec : cloop (mItem t (own.map (·.2)) mt me env) iv (iv.fuel h1) 0 [] h1 with
  | none =>
    rw [ec] at e
    cases e
  | some r =>
  obtain ⟨zs, hf⟩ := r
  rw [ec] at e
  have e : lenS zs hf = some (z, h') := e
  unfold lenS at e
  split at e
  · rename_i ns en
    split at e
    · rename_i hl
      cases e
      have zn := intsOf_mem en
      have n0 : H D = none := s1.none_back nD
      have oD : D ∉ α1 := fun z => by
        obtain ⟨_, _, us, _, _, e⟩ := g1.of_addr z
        rw [nD] at e
        cases e
      have pre : ∀ {i m : Nat} {ks : List Int} {hi : Hs}, cloop (mItem t (own.map (·.2)) mt me env) iv m i (ks.map fun k => PV.d (.int k)) hi = some (zs, h') → ks.length < 1000 := fun {i m ks hi} c => by
        obtain ⟨ws, e⟩ := cloop_pre c
        have := congrArg List.length e
        rw [zn, List.length_map, List.length_append, List.length_map] at this
        omega
      let St : Nat → Nat → Hp → Prop := fun i m H' => ∃ (αi : List Addr) (hi : Hs) (ks : List Int) (S : Int → Bool), Psts X.K B α H αi H' hi [] [] [] ∧ H' D = some (SetO X.w D S (met ks).length) ∧ (∀ j, S j = decide (j ∈ met ks)) ∧ D ∉ αi ∧ Step α1 H1 αi H' ∧ cloop (mItem t (own.map (·.2)) mt me env) iv m i (ks.map fun k => PV.d (.int k)) hi = some (zs, h')
      refine ⟨St, ⟨iv.fuel h1, α1, h1, [], fun _ => false, ?_, upd_same, fun j => rfl, oD, Step.fresh nD, ec⟩, ?_⟩
      · have p0 : Psts X.K B α H α1 H1 h1 [] [] [] := ⟨s1, g1, .nil, List.nodup_nil, fun _ z => absurd z List.not_mem_nil, fun _ z => absurd z List.not_mem_nil⟩
        exact p0.fresh nD
      · rintro i m H' ⟨αi, hi, ks, S, P, hD, hS, oi, T, ce⟩
        have wi := wk αi H' hi T P.good i
        have kl := pre ce
        have ml := met_len (ns := ks)
        have stop : iv.at hi i = some none → zs = (ks.map fun k => PV.d (.int k)) → h' = hi → J.stop i H' ∧ lenQ X.w Q (.ref D) H' := fun ea e1 e2 => by
          subst e2
          refine ⟨wi.1 ea, D, S, (met ks).length, rfl, hD, by omega, ?_⟩
          have : ns = ks := by
            rw [zn] at e1
            exact (List.map_inj_right fun a b e => by cases e; rfl).mp e1
          subst this
          exact q _ _ _ _ (P.to (PR.d (.int _)).ones (List.nil_sublist _))
        cases m with
        | zero =>
          unfold cloop at ce
          split at ce
          · rename_i ea
            cases ce
            exact .inl (stop ea rfl rfl)
          · cases ce
        | succ m =>
          unfold cloop at ce
          split at ce
          · rename_i ea
            cases ce
            exact .inl (stop ea rfl rfl)
          · rename_i x ea
            refine .inr ⟨(wi.2 x ea).1, St (i + 1) m, fun H'' n => ⟨m, Nat.lt_succ_self m, n⟩, fun v H2 yl => ?_⟩
            obtain ⟨kp, rx⟩ := (wi.2 x ea).2 v H2 yl
            have st2 : Step αi H' αi H2 := Step.of_kept kp
            have g2 := P.good.mono kp
            have P2 := P.later st2 g2
            have S2 := T.trans st2
            have hD2 : H2 D = some (SetO X.w D S (met ks).length) := kp.keep _ _ hD fun z => z
            split at ce
            · rename_i y h3 eo
              obtain ⟨env1, h2, eb, eo⟩ := bnd_some eo
              obtain ⟨b, h4, et, eo⟩ := bnd_some eo
              cases b with
              | false => cases eo
              | true =>
                obtain ⟨y1, h5, ey, eo⟩ := bnd_some eo
                obtain ⟨en2, rfl⟩ := ret_some eo
                cases en2
                split at ce
                · rename_i hz
                  obtain ⟨ws, ew⟩ := cloop_pre ce
                  have hy : y ∈ zs := by
                    rw [ew]
                    exact List.mem_append_left _ (List.mem_append_right _ List.mem_cons_self)
                  rw [zn] at hy
                  obtain ⟨k, _, rfl⟩ := List.mem_map.mp hy
                  have er2 : EnvR X.K αi H2 (wipeE env (own.map (·.2))) (L2.wipe σ (own.map (·.2))) := (er.later g P2.step).wipe _
                  refine ⟨αi, H2, αi, hi, _, x, [], env1, h2, ⟨.refl, g2, rx.ones, List.nodup_nil, fun _ z => absurd z List.not_mem_nil, fun _ z => absurd z List.not_mem_nil⟩, er2, eb, fun α3 σ3 s3 g3 er3 sb3 _ => ?_⟩
                  refine ⟨(wipe_eq sb3.1 fun i hi => sb3.2 i fun z => hi (hsl i z)).trans wipe_wipe, env1, α3, h2, true, h4, g3, er3, et, fun α4 H4 s4 g4 => iteT ?_⟩
                  refine ⟨env1, α4, h4, _, h3, g4, er3.later g3 s4, ey, fun α5 H5 w M p5 => ?_⟩
                  have r5 := p5.one
                  cases r5 with
                  | d hdr =>
                    cases hdr
                    have sx := (s3.trans s4).trans p5.step
                    have hD5 : H5 D = some (SetO X.w D S (met ks).length) := sx.keep _ _ hD2 oi
                    have oD5 : D ∉ α5 := sx.out oi hD2
                    have P5 : Psts X.K B α H α5 H5 h3 [] [] [] := P2.later sx p5.good
                    refine ⟨D, k, S, (met ks).length, rfl, rfl, hD5, by unfold scanBound; omega, ?_⟩
                    have kD : ∀ u : HO, Kept (· = D) H5 (upd H5 D u) := fun u => ⟨fun b hb => by subst hb; exact ⟨_, hD5, True.intro⟩, fun b o q hb => by rw [upd_ne hb]; exact q⟩
                    have sz2 : (if S k = true then (met ks).length else (met ks).length + 1) = (met (ks ++ [k])).length := by
                      rw [met_snoc, hS k]
                      by_cases h : k ∈ met ks
                      · simp [h]
                      · simp [h]
                    have mem2 : ∀ j, (S j || decide (j = k)) = decide (j ∈ met (ks ++ [k])) := fun j => by
                      rw [hS j, met_snoc]
                      by_cases h : k ∈ met ks
                      · rw [if_pos h]
                        by_cases e : j = k
                        · subst e; simp [h]
                        · simp [e]
                      · rw [if_neg h]
                        by_cases e : j = k
                        · subst e; simp
                        · simp [e]
                    refine ⟨α5, h3, ks ++ [k], fun j => S j || decide (j = k), ⟨P5.step.upd_new n0, P5.good.side (kD _) oD5, .nil, List.nodup_nil, fun _ z => absurd z List.not_mem_nil, fun _ z => absurd z List.not_mem_nil⟩, ?_, mem2, oD5, (S2.trans sx).upd_new nD, ?_⟩
                    · rw [upd_same, sz2]
                    · rw [List.map_append]
                      exact ce
                · cases ce
            · rename_i h3 eo
              obtain ⟨env1, h2, eb, eo⟩ := bnd_some eo
              obtain ⟨b, h4, et, eo⟩ := bnd_some eo
              cases b with
              | true =>
                obtain ⟨y1, h5, ey, eo⟩ := bnd_some eo
                obtain ⟨en2, _⟩ := ret_some eo
                cases en2
              | false =>
                obtain ⟨_, rfl⟩ := ret_some eo
                have er2 : EnvR X.K αi H2 (wipeE env (own.map (·.2))) (L2.wipe σ (own.map (·.2))) := (er.later g P2.step).wipe _
                refine ⟨αi, H2, αi, hi, _, x, [], env1, h2, ⟨.refl, g2, rx.ones, List.nodup_nil, fun _ z => absurd z List.not_mem_nil, fun _ z => absurd z List.not_mem_nil⟩, er2, eb, fun α3 σ3 s3 g3 er3 sb3 _ => ?_⟩
                refine ⟨(wipe_eq sb3.1 fun i hi => sb3.2 i fun z => hi (hsl i z)).trans wipe_wipe, env1, α3, h2, false, h3, g3, er3, et, fun α4 H4 s4 g4 => iteF ?_⟩
                have sx := s3.trans s4
                exact ⟨α4, h3, ks, S, P2.later sx g4, sx.keep _ _ hD2 oi, hS, sx.out oi hD2, S2.trans sx, ce⟩
            · cases ce
          · cases ce
    · cases e
  · cases e
theorem e_lsc {p cpos : Pos} (hc : X.calm = true) (hgl : Gl X "len") (hm : X.mg "len" = none) (hN : X.N.Nodup) (hi : PI X tg iter (tIt X.K B mi)) (ok : BlkOk X.N X.env.scope scope own) (hsl : ∀ i ∈ t.slots, i ∈ own.map (·.2))
    (hg : ∀ (s : Shared) (H : Hp) (C : Addr) (cl : List (Str × Addr)) (fp : List Addr), PG (X.blk s H scope (compEnvC scope cl C X.env) fp) tg (tT X.K B t)) (ht : ∀ (s : Shared) (H : Hp) (C : Addr) (cl : List (Str × Addr)) (fp : List Addr), PTs (X.blk s H scope (compEnvC scope cl C X.env) fp) ifs (tMB X.K B mt))
    (he : ∀ (s : Shared) (H : Hp) (C : Addr) (cl : List (Str × Addr)) (fp : List Addr), PE (X.blk s H scope (compEnvC scope cl C X.env) fp) elt (tM X.K B me)) (hs : ∀ x, foldedSetIterable iter X.env x = pure x) :
    PE X (.Call (.Name "len" p) [.SetComp elt [⟨tg, iter, ifs, 0⟩] scope cpos] [] pos) (tM X.K B (mLsc mi t (own.map (·.2)) mt me)) :=
  peI (pe_lenO hc hgl hm (pe_si hc hN hi ok hg ht he hs) rfl) fun σ H Q tt => lsc_read hsl tt
end
end Pe
/-! Pe: loops, pairs stored at once, a frame's end. -/
namespace Pe
open PySem PySem.Spec PyProof.Rows L2 RZ

section
variable {X : Cx} {K : PySem.W.Frag} {B : List Nat} {fb : Nat} {sts : List Stmt} {mb : Env → M Fl} {a b c tg iter : Expr} {ma mc mx : Env → M PV} {pos : Pos} {t : T} {mi : Env → M ItV}
theorem s_for (hp : PassesOwn (model X.prog X.w) X.A X.env X.xe) (hc : X.calm = true) (hi : PI X tg iter (tIt K B mi)) (hg : PG X tg (tT K B t)) (hb : PSs X sts (tS K B mb)) (hs : ∀ x, foldedSetIterable iter X.env x = pure x) :
    PS X (.For tg iter sts [] pos) (tS K B fun env => M.bnd (mi env) fun iv => fun h => floop t mb iv (iv.fuel h) 0 env h) :=
  psI (ps_for hp hc hi hg hb hs) fun D σ H ⟨env, α, h, f, h', g, er, e, k⟩ => by
    obtain ⟨iv, h1, e1, e⟩ := bnd_some e
    refine ⟨env, α, h, iv, h1, g, er, e1, fun α1 H1 J s1 g1 wk => ?_⟩
    refine ⟨fun i m σ' H' => ∃ αi hi envi, Step α1 H1 αi H' ∧ Good K B αi hi H' ∧ EnvR K αi H' envi σ' ∧ floop t mb iv m i envi hi = some (f, h'), ⟨iv.fuel h1, α1, h1, env, .refl, g1, er.later g s1, e⟩, ?_⟩
    rintro i m σ' H' ⟨αi, hi, envi, S, gi, eri, fe⟩
    have wi := wk αi H' hi S gi i
    have stop : iv.at hi i = some none → f = .nx envi → h' = hi → J.stop i H' ∧ D.nx σ' H' := fun ea e1 e2 => by
      subst e1 e2
      exact ⟨wi.1 ea, k αi H' σ' (s1.trans S) gi eri⟩
    cases m with
    | zero =>
      unfold floop at fe
      split at fe
      · rename_i ea
        cases fe
        exact .inl (stop ea rfl rfl)
      · cases fe
    | succ m =>
      unfold floop at fe
      split at fe
      · rename_i ea
        cases fe
        exact .inl (stop ea rfl rfl)
      · rename_i x ea
        refine .inr ⟨(wi.2 x ea).1, fun σ'' H'' => ∃ αi hi envi, Step α1 H1 αi H'' ∧ Good K B αi hi H'' ∧ EnvR K αi H'' envi σ'' ∧ floop t mb iv m (i + 1) envi hi = some (f, h'), fun σ'' H'' n => ⟨m, Nat.lt_succ_self m, n⟩, fun v H2 yl => ?_⟩
        obtain ⟨kp, rx⟩ := (wi.2 x ea).2 v H2 yl
        have st2 : Step αi H' αi H2 := Step.of_kept kp
        have g2 := gi.mono kp
        have S2 := S.trans st2
        have go : ∀ f2 h3, M.bnd (bindT t x envi) mb hi = some (f2, h3) → (∀ env1 α3 h2, Step α1 H1 α3 H2 → Good K B α3 h2 H2 → mb env1 h2 = some (f2, h3) → FlOk K B α3 H2 f2 h3 { D with nx := fun σ'' H'' => ∃ αi hi envi, Step α1 H1 αi H'' ∧ Good K B αi hi H'' ∧ EnvR K αi H'' envi σ'' ∧ floop t mb iv m (i + 1) envi hi = some (f, h'), ct := fun σ'' H'' => ∃ αi hi envi, Step α1 H1 αi H'' ∧ Good K B αi hi H'' ∧ EnvR K αi H'' envi σ'' ∧ floop t mb iv m (i + 1) envi hi = some (f, h'), bk := D.nx }) → tT K B t v σ' H2 fun σ2 H3 => tS K B mb { D with nx := fun σ'' H'' => ∃ αi hi envi, Step α1 H1 αi H'' ∧ Good K B αi hi H'' ∧ EnvR K αi H'' envi σ'' ∧ floop t mb iv m (i + 1) envi hi = some (f, h'), ct := fun σ'' H'' => ∃ αi hi envi, Step α1 H1 αi H'' ∧ Good K B αi hi H'' ∧ EnvR K αi H'' envi σ'' ∧ floop t mb iv m (i + 1) envi hi = some (f, h'), bk := D.nx } σ2 H3 := fun f2 h3 eb q => by
          obtain ⟨env1, h2, e3, e4⟩ := bnd_some eb
          refine ⟨αi, H2, αi, hi, envi, x, [], env1, h2, ⟨.refl, g2, rx.ones, List.nodup_nil, fun _ z => absurd z List.not_mem_nil, fun _ z => absurd z List.not_mem_nil⟩, eri.later gi st2, e3, fun α3 σ3 s3 g3 er3 _ _ => ?_⟩
          exact ⟨env1, α3, h2, f2, h3, g3, er3, e4, q env1 α3 h2 (S2.trans s3) g3 e4⟩
        split at fe
        · rename_i e5 h3 eb
          exact go _ _ eb fun env1 α3 h2 s3 g3 _ => fun α4 H4 σ4 s4 g4 er4 => ⟨α4, h3, e5, s3.trans s4, g4, er4, fe⟩
        · rename_i e5 h3 eb
          exact go _ _ eb fun env1 α3 h2 s3 g3 _ => fun α4 H4 σ4 s4 g4 er4 => ⟨α4, h3, e5, s3.trans s4, g4, er4, fe⟩
        · rename_i e5 h3 eb
          cases fe
          exact go _ _ eb fun env1 α3 h2 s3 g3 _ => fun α4 H4 σ4 s4 g4 er4 => k α4 H4 σ4 (s1.trans (s3.trans s4)) g4 er4
        · rename_i v5 h3 eb
          cases fe
          exact go _ _ eb fun env1 α3 h2 s3 g3 _ => fun α4 H4 v4 L4 p4 => k α4 H4 v4 L4 (p4.base (s1.trans s3))
        · cases fe
      · cases fe
theorem s_wh {n : Nat} (hp : PassesOwn (model X.prog X.w) X.A X.env X.xe) (hc : PT X c (tMB K B (mB mc))) (hb : PSs X sts (tS K B mb)) : PS X (.While c sts [] pos) (tS K B fun env => wloop (mB mc) mb n env) :=
  psI (ps_while hp hc hb) fun D σ H ⟨env, α, h, f, h', g, er, e, k⟩ => by
    refine ⟨fun m σ' H' => ∃ αi hi envi, Step α H αi H' ∧ Good K B αi hi H' ∧ EnvR K αi H' envi σ' ∧ wloop (mB mc) mb m envi hi = some (f, h'), ⟨n, α, h, env, .refl, g, er, e⟩, ?_⟩
    rintro m σ' H' ⟨αi, hi, envi, S, gi, eri, we⟩
    cases m with
    | zero => cases we
    | succ m =>
      have we' : M.bnd (mB mc envi) (fun b => if b then M.bnd (mb envi) fun f => match f with
        | .nx e => wloop (mB mc) mb m e
        | .ct e => wloop (mB mc) mb m e
        | .bk e => M.ret (.nx e)
        | .rt v => M.ret (.rt v) else M.ret (.nx envi)) hi = some (f, h') := we
      obtain ⟨b, h2, e1, e2⟩ := bnd_some we'
      refine ⟨envi, αi, hi, b, h2, gi, eri, e1, fun α1 H1 s1 g1 => ?_⟩
      cases b with
      | false =>
        obtain ⟨rfl, rfl⟩ := ret_some e2
        exact iteF (k α1 H1 σ' (S.trans s1) g1 (eri.later gi s1))
      | true =>
        obtain ⟨f2, h3, e3, e4⟩ := bnd_some e2
        refine iteT ⟨fun σ'' H'' => ∃ αi hi envi, Step α H αi H'' ∧ Good K B αi hi H'' ∧ EnvR K αi H'' envi σ'' ∧ wloop (mB mc) mb m envi hi = some (f, h'), fun σ'' H'' n => ⟨m, Nat.lt_succ_self m, n⟩, envi, α1, h2, f2, h3, g1, eri.later gi s1, e3, ?_⟩
        cases f2 with
        | nx e5 => exact fun α4 H4 σ4 s4 g4 er4 => ⟨α4, h3, e5, (S.trans s1).trans s4, g4, er4, e4⟩
        | ct e5 => exact fun α4 H4 σ4 s4 g4 er4 => ⟨α4, h3, e5, (S.trans s1).trans s4, g4, er4, e4⟩
        | bk e5 =>
          obtain ⟨rfl, rfl⟩ := ret_some e4
          exact fun α4 H4 σ4 s4 g4 er4 => k α4 H4 σ4 ((S.trans s1).trans s4) g4 er4
        | rt v5 =>
          obtain ⟨rfl, rfl⟩ := ret_some e4
          exact fun α4 H4 v4 L4 p4 => k α4 H4 v4 L4 (p4.base (S.trans s1))
theorem s_par {i j : Nat} {x y : Str} {px py pt : Pos} {kt k2 : Nat} {pt2 : Pos} (hc : X.calm = true) (hN : X.N.Nodup) (hi : X.N[i]? = some x) (hj : X.N[j]? = some y) (hij : i ≠ j) (hx : X.env.scope.names.lookup x = some .local) (hy : X.env.scope.names.lookup y = some .local)
    (ha : PA X [a, b] (tMs X.K B (mArg2 ma mx))) (hw : swappedStores [.Tuple [.Name x px, .Name y py] kt pt] (.Tuple [a, b] k2 pt2) X.env = pure (some [x, y])) (hs : swapsWithSole [.Tuple [.Name x px, .Name y py] kt pt] (.Tuple [a, b] k2 pt2) pos.line X.env = pure false) :
    PS X (.Assign [.Tuple [.Name x px, .Name y py] kt pt] (.Tuple [a, b] k2 pt2) pos) (tS X.K B fun env => M.bnd (ma env) fun x => M.bnd (mx env) fun y => M.bnd (bindT (.nm j) y env) fun e1 => M.bnd (bindT (.nm i) x e1) fun e2 => M.ret (.nx e2)) :=
  psI (ps_par hc hN hi hj hij hx hy ha hw hs) fun D σ H ⟨env, α, h, f, h', g, er, e, k⟩ => by
    obtain ⟨v, h1, e1, e⟩ := bnd_some e
    obtain ⟨w, h2, e2, e⟩ := bnd_some e
    obtain ⟨env1, h3, e3, e⟩ := bnd_some e
    obtain ⟨env2, h4, e4, e5⟩ := bnd_some e
    obtain ⟨rfl, rfl⟩ := ret_some e5
    refine ⟨env, α, h, [v, w], h2, g, er, arg2_eq e1 e2, fun α1 H1 vs L p => ?_⟩
    obtain ⟨vv, vw, L1, L2, rfl, rfl, r1, r2⟩ := p.rel.two
    obtain ⟨d1, d2, d3⟩ := List.nodup_append.mp p.nd
    unfold bindT at e3 e4
    split at e3
    · cases e3
      split at e4
      · cases e4
        obtain ⟨α2, p2, ix2, m2⟩ := (p.to r2.ones (List.sublist_append_right _ _)).conv
        have p3 : Psts X.K B α H α2 H1 (conv w h2).2 [v] [vv] L1 := ⟨p2.step, p2.good, r1.ones.same ix2, d1, fun a ha z => by
          rcases m2 a z with z | z
          · exact p.out a (List.mem_append_left _ ha) z
          · exact d3 a ha a z rfl, fun a ha => p.fr a (List.mem_append_left _ ha)⟩
        obtain ⟨α3, p4, ix3, _⟩ := p3.conv
        refine ⟨vv, vw, rfl, ?_⟩
        have er1 := (((er.later g p.step).same ix2).set (i := j) p2.one).same ix3
        rw [show (σ.set i (some vv)).set j (some vw) = (σ.set j (some vw)).set i (some vv) from List.set_comm _ _ hij]
        exact k α3 H1 _ p4.step p4.good (er1.set p4.one)
      · cases e4
    · cases e3

/-! ### a frame's end -/
theorem convs_pre : ∀ (xs : List PV) (h : Hs), ∃ e, (convs xs h).2 = h ++ e := by
  have key : ∀ (n : Nat), (∀ (v : PV) (h : Hs), sizeOf v ≤ n → ∃ e, (conv v h).2 = h ++ e) ∧ ∀ (xs : List PV) (h : Hs), sizeOf xs ≤ n → ∃ e, (convs xs h).2 = h ++ e := by
    intro n
    induction n with
    | zero =>
      refine ⟨fun v h z => ?_, fun xs h z => ?_⟩
      · cases v <;> simp at z
      · cases xs <;> simp at z
    | succ n ih =>
      refine ⟨fun v h z => ?_, fun xs h z => ?_⟩
      · cases v with
        | d x => exact ⟨[], (List.append_nil h).symm⟩
        | fl x => exact ⟨[], (List.append_nil h).symm⟩
        | ref m => exact ⟨[], (List.append_nil h).symm⟩
        | rg m => exact ⟨[], (List.append_nil h).symm⟩
        | fd m => exact ⟨[], (List.append_nil h).symm⟩
        | tl xs =>
          obtain ⟨e, q⟩ := ih.2 xs h (by simp at z; omega)
          exact ⟨e ++ [.lst (convs xs h).1], by show (convs xs h).2 ++ _ = _; rw [q, List.append_assoc]⟩
        | mt xs =>
          obtain ⟨e, q⟩ := ih.2 xs h (by simp at z; omega)
          exact ⟨e, q⟩
      · cases xs with
        | nil => exact ⟨[], (List.append_nil h).symm⟩
        | cons x xs =>
          obtain ⟨e1, q1⟩ := ih.1 x h (by simp at z; omega)
          obtain ⟨e2, q2⟩ := ih.2 xs (conv x h).2 (by simp at z; omega)
          exact ⟨e1 ++ e2, by show (convs xs (conv x h).2).2 = _; rw [q2, q1, List.append_assoc]⟩
  exact fun xs h => (key (sizeOf xs)).2 xs h (Nat.le_refl _)
end
theorem nodup_map_on {f : Nat → Addr} : ∀ {l : List Nat}, l.Nodup → (∀ x ∈ l, ∀ y ∈ l, f x = f y → x = y) → (l.map f).Nodup
  | [], _, _ => List.nodup_nil
  | x :: l, nd, inj => by
    obtain ⟨n1, n2⟩ := List.nodup_cons.mp nd
    rw [List.map_cons, List.nodup_cons]
    refine ⟨fun z => ?_, nodup_map_on n2 fun a ha b hb => inj a (List.mem_cons_of_mem _ ha) b (List.mem_cons_of_mem _ hb)⟩
    obtain ⟨y, hy, e⟩ := List.mem_map.mp z
    have := inj y (List.mem_cons_of_mem _ hy) x List.mem_cons_self e
    rw [this] at hy
    exact n1 hy
/-- a value that leaves -/
def cellAt (α : List Addr) (n : Nat) : Addr := α.getD n 0
mutual
theorem mapRef_ok {K : PySem.W.Frag} {α β : List Addr} {H : Hp} {g : Nat → Option (PV × List Nat)} (hg : ∀ n v' used a, g n = some (v', used) → α[n]? = some a → ∃ M, PR K β H v' (.ref a) M ∧ M.Perm (used.map (cellAt α))) :
    ∀ (v : PV) (u : V) (L : List Addr) (v' : PV) (used : List Nat), PR K α H v u L → mapRef g v = some (v', used) → ∃ M, PR K β H v' u M ∧ M.Perm (L ++ used.map (cellAt α))
  | .d x, _, _, _, _, r, e => by
    cases e
    cases r with
    | d r => exact ⟨[], .d r, List.Perm.refl _⟩
  | .fl x, _, _, _, _, r, e => by
    cases e
    cases r with
    | fl h z r => exact ⟨[], .fl h z r, List.Perm.refl _⟩
  | .ref n, _, _, _, _, r, e => by
    cases r with
    | ref h => exact hg n _ _ _ e h
  | .rg n, _, _, _, _, r, e => by
    cases e
    cases r with
    | rg h b e => exact ⟨[], .rg h b e, List.Perm.refl _⟩
  | .fd n, _, _, _, _, r, e => by
    cases e
    cases r with
    | fd h r => exact ⟨[], .fd h r, List.Perm.refl _⟩
  | .tl xs, _, _, _, _, r, e => by
    have e' : (match mapRefs g xs with
      | some (ys, l) => some (PV.tl ys, l)
      | none => none) = some (_, _) := e
    cases q : mapRefs g xs with
    | none => rw [q] at e'; cases e'
    | some yl =>
      obtain ⟨ys, l⟩ := yl
      rw [q] at e'
      cases e'
      cases r with
      | tl h z r =>
        obtain ⟨M, r2, pm⟩ := mapRefs_ok hg xs _ _ ys _ r q
        exact ⟨_ :: M, .tl h (by rw [r2.length, ← r.length]; exact z) r2, List.Perm.cons _ pm⟩
  | .mt xs, _, _, _, _, r, e => by
    have e' : (match mapRefs g xs with
      | some (ys, l) => some (PV.mt ys, l)
      | none => none) = some (_, _) := e
    cases q : mapRefs g xs with
    | none => rw [q] at e'; cases e'
    | some yl =>
      obtain ⟨ys, l⟩ := yl
      rw [q] at e'
      cases e'
      cases r with
      | mt h z r =>
        obtain ⟨M, r2, pm⟩ := mapRefs_ok hg xs _ _ ys _ r q
        exact ⟨M, .mt h (by rw [r2.length, ← r.length]; exact z) r2, pm⟩
theorem mapRefs_ok {K : PySem.W.Frag} {α β : List Addr} {H : Hp} {g : Nat → Option (PV × List Nat)} (hg : ∀ n v' used a, g n = some (v', used) → α[n]? = some a → ∃ M, PR K β H v' (.ref a) M ∧ M.Perm (used.map (cellAt α))) :
    ∀ (xs : List PV) (us : List V) (L : List Addr) (ys : List PV) (used : List Nat), PRs K α H xs us L → mapRefs g xs = some (ys, used) → ∃ M, PRs K β H ys us M ∧ M.Perm (L ++ used.map (cellAt α))
  | [], _, _, _, _, r, e => by
    cases e
    cases r
    exact ⟨[], .nil, List.Perm.refl _⟩
  | x :: xs, _, _, _, _, r, e => by
    have e' : (match mapRef g x, mapRefs g xs with
      | some (y, l), some (ys, l2) => some (y :: ys, l ++ l2)
      | _, _ => none) = some (_, _) := e
    cases q : mapRef g x with
    | none => rw [q] at e'; cases e'
    | some yl =>
      cases q2 : mapRefs g xs with
      | none => rw [q, q2] at e'; cases e'
      | some yl2 =>
        obtain ⟨y, l⟩ := yl
        obtain ⟨ys, l2⟩ := yl2
        rw [q, q2] at e'
        cases e'
        cases r with
        | @cons _ _ _ _ L1 L2 r t =>
          obtain ⟨M1, r1, p1⟩ := mapRef_ok hg x _ _ y l r q
          obtain ⟨M2, r2, p2⟩ := mapRefs_ok hg xs _ _ ys l2 t q2
          refine ⟨M1 ++ M2, .cons r1 r2, ?_⟩
          rw [List.map_append]
          have h1 : (M1 ++ M2).Perm ((L1 ++ l.map (cellAt α)) ++ (L2 ++ l2.map (cellAt α))) := p1.append p2
          refine h1.trans ?_
          rw [List.append_assoc, List.append_assoc]
          refine List.Perm.append_left _ ?_
          rw [← List.append_assoc, ← List.append_assoc]
          exact List.Perm.append_right _ List.perm_append_comm
end
theorem resR_ok {K : PySem.W.Frag} {B : List Nat} {α : List Addr} {h : Hs} {H : Hp} {fb : Nat} (g : Good K B α h H) : ∀ (k n : Nat) (v' : PV) (used : List Nat) (a : Addr), resR fb h k n = some (v', used) → α[n]? = some a → ∃ M, PR K (α.take fb) H v' (.ref a) M ∧ M.Perm (used.map (cellAt α)) := by
  intro k
  induction k with
  | zero =>
    intro n v' used a e ea
    unfold resR at e
    split at e
    · rename_i hn
      cases e
      exact ⟨[], .ref (by rw [List.getElem?_take_of_lt hn]; exact ea), List.Perm.refl _⟩
    · cases e
  | succ k ih =>
    intro n v' used a e ea
    unfold resR at e
    split at e
    · rename_i hn
      cases e
      exact ⟨[], .ref (by rw [List.getElem?_take_of_lt hn]; exact ea), List.Perm.refl _⟩
    · split at e
      · rename_i xs e1
        split at e
        · rename_i ys l e2
          cases e
          obtain ⟨vs, ha, z, r⟩ := g.cell n xs a e1 ea
          obtain ⟨M, r2, pm⟩ := mapRefs_ok (fun n v' used a => ih n v' used a) xs vs [] ys l r e2
          refine ⟨a :: M, .tl ha (by rw [r2.length, ← r.length]; exact z) r2, ?_⟩
          have : cellAt α n = a := by
            unfold cellAt
            rw [List.getD_eq_getElem?_getD, ea]
            rfl
          rw [List.map_cons, this]
          exact List.Perm.cons _ pm
        · cases e
      · cases e
theorem mapRef_all {P : Nat → Prop} {g : Nat → Option (PV × List Nat)} (hg : ∀ n v' used, g n = some (v', used) → ∀ m ∈ used, P m) : ∀ (s : Nat), (∀ (v : PV) v' used, sizeOf v ≤ s → mapRef g v = some (v', used) → ∀ m ∈ used, P m) ∧ ∀ (xs : List PV) ys used, sizeOf xs ≤ s → mapRefs g xs = some (ys, used) → ∀ m ∈ used, P m := by
  intro s
  induction s with
  | zero =>
    refine ⟨fun v _ _ z => ?_, fun xs _ _ z => ?_⟩
    · cases v <;> simp at z
    · cases xs <;> simp at z
  | succ s ih =>
    refine ⟨fun v v' used z e => ?_, fun xs ys used z e => ?_⟩
    · cases v with
      | d x => cases e; exact fun _ q => absurd q List.not_mem_nil
      | fl x => cases e; exact fun _ q => absurd q List.not_mem_nil
      | ref n => exact hg n _ _ e
      | rg n => cases e; exact fun _ q => absurd q List.not_mem_nil
      | fd n => cases e; exact fun _ q => absurd q List.not_mem_nil
      | tl xs =>
        have e' : (match mapRefs g xs with
          | some (ys, l) => some (PV.tl ys, l)
          | none => none) = some (v', used) := e
        cases q : mapRefs g xs with
        | none => rw [q] at e'; cases e'
        | some yl =>
          rw [q] at e'
          cases e'
          exact ih.2 xs _ _ (by simp at z; omega) q
      | mt xs =>
        have e' : (match mapRefs g xs with
          | some (ys, l) => some (PV.mt ys, l)
          | none => none) = some (v', used) := e
        cases q : mapRefs g xs with
        | none => rw [q] at e'; cases e'
        | some yl =>
          rw [q] at e'
          cases e'
          exact ih.2 xs _ _ (by simp at z; omega) q
    · cases xs with
      | nil => cases e; exact fun _ q => absurd q List.not_mem_nil
      | cons x xs =>
        have e' : (match mapRef g x, mapRefs g xs with
          | some (y, l), some (ys, l2) => some (y :: ys, l ++ l2)
          | _, _ => none) = some (ys, used) := e
        cases q : mapRef g x with
        | none => rw [q] at e'; cases e'
        | some yl =>
          cases q2 : mapRefs g xs with
          | none => rw [q, q2] at e'; cases e'
          | some yl2 =>
            rw [q, q2] at e'
            cases e'
            intro m hm
            rcases List.mem_append.mp hm with w | w
            · exact ih.1 x _ _ (by simp at z; omega) q m w
            · exact ih.2 xs _ _ (by simp at z; omega) q2 m w
theorem resR_ge {fb : Nat} {h : Hs} : ∀ (k n : Nat) (v' : PV) (used : List Nat), resR fb h k n = some (v', used) → ∀ m ∈ used, fb ≤ m ∧ m < h.length := by
  intro k
  induction k with
  | zero =>
    intro n v' used e
    unfold resR at e
    split at e
    · cases e; exact fun _ q => absurd q List.not_mem_nil
    · cases e
  | succ k ih =>
    intro n v' used e
    unfold resR at e
    split at e
    · cases e; exact fun _ q => absurd q List.not_mem_nil
    · rename_i hn
      split at e
      · rename_i xs e1
        split at e
        · rename_i ys l e2
          cases e
          intro m hm
          rcases List.mem_cons.mp hm with w | w
          · rw [w]
            exact ⟨Nat.le_of_not_lt hn, (List.getElem?_eq_some_iff.mp e1).1⟩
          · exact (mapRef_all (fun n v' used => ih n v' used) (sizeOf xs)).2 xs ys l (Nat.le_refl _) e2 m w
        · cases e
      · cases e
theorem mapRef_ge {fb : Nat} {h : Hs} {v v' : PV} {used : List Nat} (e : mapRef (resR fb h 4) v = some (v', used)) : ∀ m ∈ used, fb ≤ m ∧ m < h.length :=
  (mapRef_all (resR_ge 4) (sizeOf v)).1 v v' used (Nat.le_refl _) e
/-- the end of a frame that began at fb cells -/
theorem leave_ok {K : PySem.W.Frag} {B : List Nat} {α0 α α2 : List Addr} {H0 H2 : Hp} {h h2 h' : Hs} {v z : PV} {w : V} {L : List Addr} (len : α.length = h.length) (sub : ∃ γ, α2 = α ++ γ) (s0 : ∃ β, α = α0 ++ β) (hB : ∀ b ∈ B, b ≤ h.length)
    (p : Psts K (h.length :: B) α0 H0 α2 H2 h2 [v] [w] L) (e : leave h.length v h2 = some (z, h')) : ∃ M, Psts K B α0 H0 α H2 h' [z] [w] M := by
  unfold leave at e
  split at e
  · rename_i v' used e1
    split at e
    · rename_i nd
      cases e
      obtain ⟨γ, e2⟩ := sub
      obtain ⟨β, e0⟩ := s0
      have et : α2.take h.length = α := by rw [e2, ← len, List.take_left']; rfl
      obtain ⟨M, r, pm⟩ := mapRef_ok (fun n v' used a => resR_ok (fb := h.length) p.good 4 n v' used a) v w L _ used p.one e1
      rw [et] at r
      have hl2 : h.length ≤ h2.length := (p.good.wf _ List.mem_cons_self).1
      have hu : ∀ m ∈ used, h.length ≤ m ∧ m < α2.length := fun m hm => by
        have := mapRef_ge e1 m hm
        rw [p.good.len]
        exact this
      have at2 : ∀ m ∈ used, ∃ a, α2[m]? = some a ∧ cellAt α2 m = a := fun m hm => by
        have q := List.getElem?_eq_getElem (hu m hm).2
        refine ⟨_, q, ?_⟩
        unfold cellAt
        rw [List.getD_eq_getElem?_getD, q]
        rfl
      have notin : ∀ m ∈ used, cellAt α2 m ∉ α := fun m hm z => by
        obtain ⟨a, q, ea⟩ := at2 m hm
        rw [ea] at z
        obtain ⟨n, hn, en⟩ := List.getElem_of_mem z
        have q2 : α2[n]? = some a := by rw [e2, List.getElem?_append_left hn, List.getElem?_eq_getElem hn, en]
        have h1 := List.getElem?_eq_some_iff.mp q
        have h3 := List.getElem?_eq_some_iff.mp q2
        have := (List.getElem_inj p.good.nd).mp (h1.2.trans h3.2.symm)
        have := (hu m hm).1
        omega
      refine ⟨M, ⟨⟨β, e0, fun a ha => ?_⟩, p.step.keep, p.step.there⟩, ⟨?_, ?_, fun n xs a e3 e4 => ?_, fun b hb => ⟨?_, fun n c hn e3 => ?_⟩⟩, r.ones, ?_, fun a ha => ?_, fun a ha => ?_⟩
      · obtain ⟨δ, e5, f5⟩ := p.step.pre
        have : δ = β ++ γ := by
          rw [e2, e0, List.append_assoc] at e5
          exact (List.append_cancel_left e5).symm
        exact f5 a (by rw [this]; exact List.mem_append_left _ ha)
      · rw [List.length_take, len]
        omega
      · have := p.good.nd
        rw [e2] at this
        exact (List.nodup_append.mp this).1
      · have hn : n < h.length := by
          have := (List.getElem?_eq_some_iff.mp e3).1
          rw [List.length_take] at this
          omega
        rw [List.getElem?_take_of_lt hn] at e3
        have e4' : α2[n]? = some a := by rw [e2, List.getElem?_append_left (by rw [len]; exact hn)]; exact e4
        obtain ⟨vs, q1, q2, q3⟩ := p.good.cell n xs a e3 e4'
        have lt := (p.good.wf _ List.mem_cons_self).2 n _ hn e3
        have q4 := PRs.cut _ _ _ q3 lt
        rw [et] at q4
        exact ⟨vs, q1, q2, q4⟩
      · rw [List.length_take]
        have := hB b hb
        omega
      · have hnb : n < h.length := Nat.lt_of_lt_of_le hn (hB b hb)
        rw [List.getElem?_take_of_lt hnb] at e3
        exact (p.good.wf b (List.mem_cons_of_mem _ hb)).2 n c hn e3
      · rw [pm.nodup_iff, List.nodup_append]
        refine ⟨p.nd, ?_, fun a ha b hb q => ?_⟩
        · refine nodup_map_on nd fun m hm n hn q => ?_
          obtain ⟨c, q1, e1⟩ := at2 m hm
          obtain ⟨c2, q2, e2⟩ := at2 n hn
          rw [e1, e2] at q
          subst q
          have h1 := List.getElem?_eq_some_iff.mp q1
          have h3 := List.getElem?_eq_some_iff.mp q2
          exact (List.getElem_inj p.good.nd).mp (h1.2.trans h3.2.symm)
        · subst q
          obtain ⟨m, hm, em⟩ := List.mem_map.mp hb
          obtain ⟨c, q, ec⟩ := at2 m hm
          refine p.out a ha ?_
          rw [← em, ec]
          exact List.mem_of_getElem? q
      · rcases List.mem_append.mp (pm.subset ha) with z | z
        · have := p.out a z
          rw [e2] at this
          exact fun q => this (List.mem_append_left _ q)
        · obtain ⟨m, hm, em⟩ := List.mem_map.mp z
          rw [← em]
          exact notin m hm
      · rcases List.mem_append.mp (pm.subset ha) with z | z
        · exact p.fr a z
        · obtain ⟨m, hm, em⟩ := List.mem_map.mp z
          obtain ⟨c, q, ec⟩ := at2 m hm
          rw [← em, ec]
          obtain ⟨δ, e5, f5⟩ := p.step.pre
          have hc : c ∈ α2 := List.mem_of_getElem? q
          rw [e5] at hc
          rcases List.mem_append.mp hc with y | y
          · refine absurd ?_ (notin m hm)
            rw [ec, e0]
            exact List.mem_append_left _ y
          · exact f5 c y
    · cases e
  · cases e
end Pe
/-! Pe: the own syntax is held against the program's. -/
namespace Pe
open PySem PySem.Spec PyProof.Rows L2 RZ

def visB (sc : Scope) (x : Str) : Bool := match sc.names.lookup x with
  | some .local => true
  | some .cell => true
  | some .free => true
  | _ => false
def locB (sc : Scope) (x : Str) : Bool := match sc.names.lookup x with
  | some .local => true
  | some .cell => true
  | _ => false
def isLocal (sc : Scope) (x : Str) : Bool := match sc.names.lookup x with
  | some .local => true
  | _ => false
def glB (sc : Scope) (x : Str) : Bool := match sc.names.lookup x with
  | some .globalImplicit => true
  | _ => false
def nameOk (x : Str) : Bool := !(x == ("__debug__" : Str)) && !(x == ("__classdict__" : Str)) && !(x == ("__name__" : Str))
def cstB : Const → D → Bool
  | .none, .non => true
  | .bool a, .bl b => a == b
  | .int a, .int b => decide (a = b)
  | .str a, .str b => decide (a = b)
  | _, _ => false
def Blt.nm : Blt → Str
  | .len => "len" | .tuple => "tuple" | .list => "list" | .all => "all" | .any => "any" | .sum => "sum" | .int => "int" | .abs => "abs" | .max => "max" | .min => "min" | .sorted => "sorted" | .isi _ => "isinstance"
def Ty.pyn : Ty → Str
  | .int => "int" | .bool => "bool" | .str => "str" | .tuple => "tuple" | .list => "list"
/-- all names of built-ins that the checks let by -/
def bltAll : List Str := ["len", "tuple", "list", "all", "any", "sum", "int", "abs", "isinstance", "max", "min", "sorted", "set", "bool", "str", "range", "enumerate", "zip"]
def ckTy (sc : Scope) : Expr → Ty → Bool
  | .Name x _, t => decide (x = t.pyn) && glB sc x
  | _, _ => false
def ckTys (sc : Scope) : List Expr → List Ty → Bool
  | [], [] => true
  | e :: es, t :: ts => ckTy sc e t && ckTys sc es ts
  | _, _ => false
/-- not one of the forms that the rules treat apart -/
def plainE : Expr → Bool
  | .Starred .. => false
  | .Set .. => false
  | .Slice .. => false
  | .ListComp .. => false
  | .SetComp .. => false
  | .DictComp .. => false
  | .GeneratorExp .. => false
  | _ => true
def notSet : Expr → Bool
  | .Set .. => false
  | _ => true
def noStar : Expr → Bool
  | .Starred .. => false
  | _ => true
def noCall : Expr → Bool
  | .Call _ (_ :: _) _ _ => true
  | .Call .. => false
  | _ => true
mutual
def ckT (N : List Str) (so : Scope) : Expr → T → Bool
  | .Name x _, .nm i => decide (N[i]? = some x) && locB so x
  | .Tuple es _ _, .tup ts => ckTs N so es ts
  | _, _ => false
def ckTs (N : List Str) (so : Scope) : List Expr → List T → Bool
  | [], [] => true
  | e :: es, t :: ts => noStar e && ckT N so e t && ckTs N so es ts
  | _, _ => false
end
def ownN (N : List Str) (own : List Nat) : List (Str × Nat) := own.map fun i => (N.getD i "", i)
section
variable (FT : List Fn) (N : List Str)
mutual
def ckE : Nat → Scope → Expr → E → Bool
  | 0, _, _, _ => false
  | n + 1, sc, e, e' => match e, e' with
    | .Name x _, .var i => decide (N[i]? = some x) && visB sc x && nameOk x
    | .Constant c _ _, .cst d => cstB c d
    | .BinOp a o b _, .bin o' a' b' => decide (o = o'.op) && ckE n sc a a' && ckE n sc b b'
    | .UnaryOp o a _, .un o' a' => decide (o = o'.op) && ckE n sc a a'
    | .UnaryOp .Not a _, .nt a' => ckE n sc a a'
    | .BoolOp op vs _, e' => ckV n sc op vs e'
    | .Compare a [o] [b] _, .cmp o' a' b' => decide (o = o'.op) && notSet b && ckE n sc a a' && ckE n sc b b'
    | .Compare a [o, p] [b, c] _, .chn o' p' a' b' c' => decide (o = o'.op) && decide (p = p'.op) && notSet c && ckE n sc a a' && ckE n sc b b' && ckE n sc c c'
    | .IfExp c a b _, .ifx c' a' b' => ckB n sc c c' && ckE n sc a a' && ckE n sc b b'
    | .Call (.Name x _) args [] _, .call f as => (match FT[f]? with
      | some t => decide (t.name = x)
      | none => false) && glB sc x && nameOk x && ckEs n sc args as
    | .Call (.Name x _) (b :: bs) [] _, .callk f as => (match FT[f]? with
      | some t => decide (t.name = x)
      | none => false) && decide (FT.length ≤ KEEP) && glB sc x && nameOk x && ckEs n sc (b :: bs) as
    | .Call (.Name x _) [a, t] [] _, .blt (.isi ts) [a'] => decide (x = "isinstance") && glB sc x && ckE n sc a a' && (match t with
      | .Tuple es _ _ => ckTys sc es ts && decide (ts.length < 100)
      | t => match ts with
        | [ty] => ckTy sc t ty
        | _ => false)
    | .Call (.Name x _) (a :: args) [] _, .blt b as => decide (x = b.nm) && !(decide (x = "isinstance")) && glB sc x && ckEs n sc (a :: args) as
    | .Call (.Attribute o m apos) args [] cpos, .mth m' o' as => decide (m = m'.nm) && noCall o && (apos.endLine == cpos.line) && decide (args.length < 20) && ckE n sc o o' && ckEs n sc args as
    | .Call (.Attribute o m apos) [a] [] cpos, .join o' a' => decide (m = "join") && noCall o && (apos.endLine == cpos.line) && noStar a && ckE n sc o o' && ckE n sc a a'
    | .Call (.Name x _) [.Call (.Name y _) [a] [] _] [] _, .lrg t a' => decide (x = if t then "tuple" else "list") && decide (y = "range") && glB sc x && glB sc y && noStar a && ckE n sc a a'
    | .Call (.Name x _) [.Call (.Name y _) [a] [] _] [] _, .sset a' => decide (x = "sorted") && decide (y = "set") && glB sc x && glB sc y && noStar a && ckE n sc a a'
    | .Call (.Name x _) [.Call (.Name y _) [a] [] _] [] _, .lset a' => decide (x = "len") && decide (y = "set") && glB sc x && glB sc y && noStar a && ckE n sc a a'
    | .Call (.Name x _) [a] [] _, .rgv a' => decide (x = "range") && glB sc x && noStar a && ckE n sc a a'
    | .Call (.Name x _) [a] [⟨some k, .Constant .none _ _, _⟩] _, .mxd mx a' => decide (x = if mx then "max" else "min") && decide (k = Str.ofString "default") && glB sc x && noStar a && ckE n sc a a'
    | .Tuple es _ _, .tup as => ckEs n sc es as
    | .List es _, .lst as => ckEs n sc es as
    | .Subscript a (.Slice none none (some (.UnaryOp .USub (.Constant (.int 1) _ _) _)) _) _, .rsl a' => ckE n sc a a'
    | .Subscript a (.Slice lo hi none _) _, .slc f1 f2 a' lo' hi' => ckE n sc a a' && ckO n sc lo f1 lo' && ckO n sc hi f2 hi'
    | .Subscript a b _, .idx a' b' => plainE b && ckE n sc a a' && ckE n sc b b'
    | .ListComp elt [⟨tg, iter, ifs, 0⟩] scope _, .comp own tg' it' hc c' elt' => blkC N sc scope (ownN N own) && ckT N scope tg tg' && (tg'.slots.all fun i => decide (i ∈ own)) && ckI n sc tg iter it' && ckE n (relS scope sc) elt elt' &&
      (match ifs, hc with
      | [], false => true
      | [c], true => ckB n (relS scope sc) c c'
      | _, _ => false)
    | .DictComp kx vx [⟨tg, iter, ifs, 0⟩] scope _, .dcomp own tg' it' hc c' k' v' => blkC N sc scope (ownN N own) && ckT N scope tg tg' && (tg'.slots.all fun i => decide (i ∈ own)) && ckI n sc tg iter it' && ckE n (relS scope sc) kx k' && ckE n (relS scope sc) vx v' &&
      (match ifs, hc with
      | [], false => true
      | [c], true => ckB n (relS scope sc) c c'
      | _, _ => false)
    | .Call (.Name x _) [.SetComp elt [⟨tg, iter, ifs, 0⟩] scope _] [] _, .lsc own tg' it' hc c' elt' => decide (x = "len") && glB sc x && blkC N sc scope (ownN N own) && ckT N scope tg tg' && (tg'.slots.all fun i => decide (i ∈ own)) && ckI n sc tg iter it' && ckE n (relS scope sc) elt elt' &&
      (match ifs, hc with
      | [], false => true
      | [c], true => ckB n (relS scope sc) c c'
      | _, _ => false)
    | .ListComp elt [⟨tg, iter, ifs, 0⟩, ⟨tg1, iter1, ifs1, 0⟩] scope _, .comp2 own tg' it' hc c' own1 tg1' it1' hc1 c1' elt' => blkC N sc scope (ownN N own) && ckT N scope tg tg' && (tg'.slots.all fun i => decide (i ∈ own)) && ckI n sc tg iter it' && ckE n (relS scope sc) elt elt' &&
      (match ifs, hc with
      | [], false => true
      | [c], true => ckB n (relS scope sc) c c'
      | _, _ => false) && ckT N scope tg1 tg1' && (tg1'.slots.all fun i => decide (i ∈ own)) && (tg1'.slots.all fun i => decide (i ∈ own1)) && (own1.all fun i => decide (i ∈ own)) && ckI n (relS scope sc) tg1 iter1 it1' &&
      (match ifs1, hc1 with
      | [], false => true
      | [c], true => ckB n (relS scope sc) c c1'
      | _, _ => false)
    | _, _ => false
/-- values of and, or -/
def ckV : Nat → Scope → BoolOp → List Expr → E → Bool
  | 0, _, _, _, _ => false
  | n + 1, sc, op, vs, e' => match vs with
    | [a] => ckE n sc a e'
    | a :: b :: r => match op, e' with
      | .And, .an a' b' => ckE n sc a a' && ckV n sc .And (b :: r) b'
      | .Or, .orr a' b' => ckE n sc a a' && ckV n sc .Or (b :: r) b'
      | _, _ => false
    | [] => false
/-- tests -/
def ckB : Nat → Scope → Expr → E → Bool
  | 0, _, _, _ => false
  | n + 1, sc, e, e' => match e with
    | .UnaryOp .Not a _ => match e' with
      | .nt a' => ckB n sc a a'
      | _ => false
    | .BoolOp op vs _ => ckW n sc op vs e'
    | .Compare a [o] [b] _ => match e' with
      | .cmp o' a' b' => decide (o = o'.op) && notSet b && ckE n sc a a' && ckE n sc b b'
      | _ => false
    | .Compare a [o, p] [b, c] _ => match e' with
      | .chn o' p' a' b' c' => decide (o = o'.op) && decide (p = p'.op) && notSet c && ckE n sc a a' && ckE n sc b b' && ckE n sc c c'
      | _ => false
    | .Name x p => ckE n sc (.Name x p) e'
    | .Constant c k p => ckE n sc (.Constant c k p) e'
    | .Call f as ks p => ckE n sc (.Call f as ks p) e'
    | .Subscript a b p => ckE n sc (.Subscript a b p) e'
    | _ => false
/-- tests of and, or -/
def ckW : Nat → Scope → BoolOp → List Expr → E → Bool
  | 0, _, _, _, _ => false
  | n + 1, sc, op, vs, e' => match vs with
    | [a] => ckB n sc a e'
    | a :: b :: r => match op, e' with
      | .And, .an a' b' => ckB n sc a a' && ckW n sc .And (b :: r) b'
      | .Or, .orr a' b' => ckB n sc a a' && ckW n sc .Or (b :: r) b'
      | _, _ => false
    | [] => false
def ckEs : Nat → Scope → List Expr → List E → Bool
  | 0, _, _, _ => false
  | n + 1, sc, es, es' => match es, es' with
    | [], [] => true
    | e :: es, e' :: es' => noStar e && ckE n sc e e' && ckEs n sc es es'
    | _, _ => false
def ckO : Nat → Scope → Option Expr → Bool → E → Bool
  | 0, _, _, _, _ => false
  | n + 1, sc, o, f, e' => match o, f with
    | none, false => true
    | some e, true => ckE n sc e e'
    | _, _ => false
def ckI : Nat → Scope → Expr → Expr → It → Bool
  | 0, _, _, _, _ => false
  | n + 1, sc, tg, e, it => match it with
    | .seq e' => (match e with
      | .Set .. => false
      | _ => true) && ckE n sc e e'
    | .rng1 a' => match e with
      | .Call (.Name x _) [a] [] _ => decide (x = "range") && glB sc x && noStar a && ckE n sc a a'
      | _ => false
    | .rng2 a' b' => match e with
      | .Call (.Name x _) [a, b] [] _ => decide (x = "range") && glB sc x && noStar a && noStar b && ckE n sc a a' && ckE n sc b b'
      | _ => false
    | .rngd a' b' => match e with
      | .Call (.Name x _) [a, b, c] [] _ => decide (x = "range") && glB sc x && noStar a && noStar b && noStar c && ckE n sc a a' && ckE n sc b b' && ckE n sc c (.un .neg (.cst (.int 1)))
      | _ => false
    | .enum a' => match tg, e with
      | .Tuple _ _ _, .Call (.Name x _) [a] [] _ => decide (x = "enumerate") && glB sc x && noStar a && ckE n sc a a'
      | _, _ => false
    | .zip a' b' => match tg, e with
      | .Tuple _ _ _, .Call (.Name x _) [a, b] [] _ => decide (x = "zip") && glB sc x && noStar a && noStar b && ckE n sc a a' && ckE n sc b b'
      | _, _ => false
end
/-- statements of a def's body -/
def swB (sc : Scope) (x : Str) (py pos : Pos) (scope : Scope) : Bool := isLocal sc x && (py.line == pos.line) && !(scope.names.any fun (n, k) => n == x && (k == .local || k == .cell))
mutual
def ckS : Nat → Scope → Stmt → S → Bool
  | 0, _, _, _ => false
  | n + 1, sc, s, s' => match s, s' with
    | .Assign [.Name x py] (.ListComp elt [⟨tg, iter, ifs, 0⟩] scope pos) _, .asg (.nm i) (.comp own tg' it' hc c' elt') => decide (N[i]? = some x) && locB sc x &&
      ckE FT N (n + 1) sc (.ListComp elt [⟨tg, iter, ifs, 0⟩] scope pos) (.comp own tg' it' hc c' elt')
    | .Assign [.Name x py] (.DictComp kx vx [⟨tg, iter, ifs, 0⟩] scope pos) _, .asg (.nm i) (.dcomp own tg' it' hc c' k' v') => decide (N[i]? = some x) && locB sc x &&
      ckE FT N (n + 1) sc (.DictComp kx vx [⟨tg, iter, ifs, 0⟩] scope pos) (.dcomp own tg' it' hc c' k' v')
    | .Assign [.Name x py] (.ListComp elt [⟨tg, iter, ifs, 0⟩, ⟨tg1, iter1, ifs1, 0⟩] scope pos) _, .asg (.nm i) (.comp2 own tg' it' hc c' own1 tg1' it1' hc1 c1' elt') => decide (N[i]? = some x) && locB sc x &&
      ckE FT N (n + 1) sc (.ListComp elt [⟨tg, iter, ifs, 0⟩, ⟨tg1, iter1, ifs1, 0⟩] scope pos) (.comp2 own tg' it' hc c' own1 tg1' it1' hc1 c1' elt')
    | .Assign [.Tuple [.Name x px, .Name y p2] kt pt] (.Tuple [a, b] k2 pt2) pos, .par i j a' b' => decide (N[i]? = some x) && decide (N[j]? = some y) && decide (i ≠ j) && isLocal sc x && isLocal sc y && (px.line == p2.line) && decide (x ≠ y) &&
      !([a, b].all (foldedForSure 8)) && !([a, b].all (constantsAlone 8)) && noStar a && noStar b && ckE FT N n sc a a' && ckE FT N n sc b b'
    | .Assign [.Subscript b c _] a _, .sub b' c' a' => plainE a && plainE c && ckE FT N n sc a a' && ckE FT N n sc b b' && ckE FT N n sc c c'
    | .Assign [tg] a _, .asg t a' => plainE a && (match a with
      | .Tuple .. => match tg with
        | .Name .. => true
        | _ => false
      | _ => true) && ckT N sc tg t && ckE FT N n sc a a'
    | .AugAssign (.Name x _) o a _, .aug i o' a' => decide (N[i]? = some x) && locB sc x && decide (o = o'.op) && (match o' with
      | .add => true
      | .sub => true
      | _ => false) && visB sc x && ckE FT N n sc a a'
    | .Expr a _, .ex a' => plainE a && ckE FT N n sc a a'
    | .Return (some a) _, .ret a' => ckE FT N n sc a a'
    | .Return none _, .retn => true
    | .If c a b _, .ife c' a' b' => ckB FT N n sc c c' && ckSs n sc a a' && ckSs n sc b b'
    | .For tg iter b [] _, .fr t it b' => ckT N sc tg t && ckI FT N n sc tg iter it && ckSs n sc b b'
    | .While c b [] _, .wh c' b' => ckB FT N n sc c c' && ckSs n sc b b'
    | .Break _, .brk => true
    | .Continue _, .cnt => true
    | .Pass _, .pas => true
    | _, _ => false
def ckSs : Nat → Scope → List Stmt → List S → Bool
  | 0, _, _, _ => false
  | n + 1, sc, ss, ss' => match ss, ss' with
    | [], [] => true
    | s :: ss, s' :: ss' => ckS n sc s s' && ckSs n sc ss ss'
    | _, _ => false
end
end
/-- a def of the table against its text -/
def ckFn (FT : List Fn) (t : Fn) (st : Stmt) : Bool :=
  (match (defScope st).kind with
  | .function => true
  | _ => false) && !(defScope st).isCoroutine && !(defScope st).isGenerator && decide t.N.Nodup && decide (t.np ≤ t.N.length) && ((t.N.take t.np).all fun x => locB (defScope st) x) && ((defScope st).names.all fun y => match y.2 with
  | .free => false
  | _ => true) && ckSs FT t.N 60 (defScope st) (defBody st) t.body
end Pe
/-! Pe: what is checked is sound. -/
namespace Pe
open PySem PySem.Spec PyProof.Rows L2 RZ

/-! ### facts of the checks -/
theorem vis_of {sc : Scope} {x : Str} (h : visB sc x = true) : Vis sc x := by
  unfold visB at h
  split at h
  · rename_i e; exact .inl e
  · rename_i e; exact .inr (.inl e)
  · rename_i e; exact .inr (.inr e)
  · cases h
theorem loc_of {sc : Scope} {x : Str} (h : locB sc x = true) : sc.names.lookup x = some .local ∨ sc.names.lookup x = some .cell := by
  unfold locB at h
  split at h
  · rename_i e; exact .inl e
  · rename_i e; exact .inr e
  · cases h
theorem local_of {sc : Scope} {x : Str} (h : isLocal sc x = true) : sc.names.lookup x = some .local := by
  unfold isLocal at h
  split at h
  · rename_i e; exact e
  · cases h
theorem gl_of {X : Cx} {sc : Scope} {x : Str} (hs : X.env.scope = sc) (h : glB sc x = true) : Gl X x := by
  unfold glB at h
  split at h
  · rename_i e
    subst hs
    exact e
  · cases h
theorem names_of {x : Str} (h : nameOk x = true) : (x == ("__debug__" : Str)) = false ∧ (x == ("__classdict__" : Str)) = false ∧ x ≠ Str.ofString "__name__" := by
  unfold nameOk at h
  simp only [Bool.and_eq_true, Bool.not_eq_true'] at h
  exact ⟨h.1.1, h.1.2, fun e => by have := h.2; rw [e] at this; simp at this⟩
theorem star_of {e : Expr} {es : List Expr} {env : PySem.Env} (h : noStar e = true) : starEach (e :: es) env = (false, eval e env) :: starEach es env := by
  cases e <;> first | rfl | cases h
theorem behind_of {o : CmpOp} {e : Expr} (h : notSet e = true) : behindInMarks o e = false := by
  cases e <;> first | rfl | cases h
theorem last_of {o p : CmpOp} {b c : Expr} (h : notSet c = true) : lastMarks [o, p] [b, c] = false := behind_of h
theorem plainIx_of {e : Expr} (h : plainE e = true) : PlainIx e := by
  cases e <;> first | (intro _ _; rfl) | cases h
theorem base_of {e : Expr} {m : Str} {env : PySem.Env} (h : noCall e = true) : attributeBase e m env (eval e env) = eval e env := by
  cases e with
  | Call f args kws pos =>
    cases args with
    | nil => cases h
    | cons a r => cases f <;> rfl
  | _ => first | rfl | cases h
theorem sw_of {e : Expr} {t : Option Expr} {l : Nat} {env : PySem.Env} (h : plainE e = true) : swapsWith e t l env = pure false := by
  cases e <;> first | rfl | cases h
theorem fold_of {e : Expr} {env : PySem.Env} (h : (match e with
  | .Set .. => false
  | _ => true) = true) : ∀ x, foldedSetIterable e env x = pure x := by
  cases e <;> first | (intro _; rfl) | cases h
theorem cst_of {c : Const} {d : D} (h : cstB c d = true) {X : Cx} {K : PySem.W.Frag} {B : List Nat} {j : Nat} {pos : Pos} : PE X (.Constant c j pos) (tM K B fun _ => M.ret (.d d)) := by
  unfold cstB at h
  split at h
  · exact e_cst_non
  · rw [eq_of_beq h]; exact e_cst_bl
  · rw [of_decide_eq_true h]; exact e_cst_int
  · rw [of_decide_eq_true h]; exact e_cst_str
  · cases h
theorem tb_none {α : Type} {l : List (Bool × α)} {f : Bool × α → Bool × α} (hf : ∀ p, (f p).1 = p.1) (h : ∀ p ∈ l, p.1 = false) : (List.any (l.map f) fun x => x.1) = false := by
  rw [List.any_map, List.any_eq_false]
  intro p hp
  simp only [Function.comp_apply, hf, h p hp]
  decide
theorem stars_none {env : PySem.Env} : ∀ {es : List Expr}, (∀ e ∈ es, noStar e = true) → ∀ p ∈ starEach es env, p.1 = false
  | [], _, p, hp => absurd hp List.not_mem_nil
  | e :: es, h, p, hp => by
    rw [star_of (h e List.mem_cons_self)] at hp
    rcases List.mem_cons.mp hp with z | z
    · rw [z]
    · exact stars_none (fun e he => h e (List.mem_cons_of_mem _ he)) p z
theorem back_none {env : PySem.Env} {pos : Pos} {es : List Expr} (h : ∀ e ∈ es, noStar e = true) : (List.any (backTo pos (starEach es env)) fun x => x.1) = false :=
  tb_none (fun p => rfl) (stars_none h)
theorem back_all {env : PySem.Env} {pos : Pos} {es : List Expr} (h : ∀ e ∈ es, noStar e = true) : ((backTo pos (starEach es env)).all fun x => !x.1) = true := by
  rw [List.all_eq_true]
  intro p hp
  have := List.any_eq_false.mp (back_none (pos := pos) (env := env) h) p hp
  simpa using this
theorem bts {bl : Blt} : bootBuiltins bl.nm = some bl.val := by
  cases bl with
  | isi ts => exact (by decide +kernel : bootBuiltins "isinstance" = some (.builtin "isinstance"))
  | _ => decide +kernel
theorem boot_ty (t : Ty) : bootBuiltins t.pyn = some (.type t.nm) := by
  cases t <;> decide +kernel
theorem blt_mem {bl : Blt} : bl.nm ∈ bltAll := by
  cases bl with
  | isi ts => exact (by decide +kernel : ("isinstance" : Str) ∈ bltAll)
  | _ => decide +kernel
theorem ty_mem {t : Ty} : t.pyn ∈ bltAll := by
  cases t <;> decide +kernel
theorem ty_ne {t : Ty} : t.pyn ≠ ("__name__" : Str) ∧ (t.pyn == ("__debug__" : Str)) = false := by
  cases t <;> exact ⟨by decide +kernel, by decide +kernel⟩
theorem blt_ne {bl : Blt} : bl.nm ≠ Str.ofString "__name__" ∧ (bl.nm == Str.ofString "__debug__") = false := by
  cases bl with
  | isi ts => exact (⟨by decide +kernel, by decide +kernel⟩ : ("isinstance" : Str) ≠ Str.ofString "__name__" ∧ (("isinstance" : Str) == Str.ofString "__debug__") = false)
  | _ => exact ⟨by decide +kernel, by decide +kernel⟩

/-! ### the context -/
structure XOk (FT : List Fn) (d : Nat) (N : List Str) (sc so : Scope) (X : Cx) : Prop where
  calm : X.calm = true
  hN : X.N = N
  nd : N.Nodup
  hsc : X.env.scope = sc
  kind : sc.kind = .function
  room : Room d X.A
  xe : X.xe = fun _ _ => False
  bl : ∀ x ∈ bltAll, X.mg x = none
  fns : ∀ f t, FT[f]? = some t → ∃ a fd, X.mg t.name = some (.ref a) ∧ PySem.W.keepIn X.K (.ref a) = true ∧ Binds X.K fd (t.N.take t.np) [] ∧ (t.N.take t.np).length = t.np ∧ FnOk X.prog X.w X.K X.mg X.base CX0 d a fd (t.N.take t.np) (spC X.K (call FT d f) t.np)
  fnk : FT.length ≤ KEEP → ∀ f t, FT[f]? = some t → ∃ a fd, X.mg t.name = some (.ref a) ∧ PySem.W.keepIn X.K (.ref a) = true ∧ Binds X.K fd (t.N.take t.np) [] ∧ (t.N.take t.np).length = t.np ∧ FnOk X.prog X.w X.K X.mg X.base CX0 d a fd (t.N.take t.np) (spK X.K (fun fb xs => call FT d (f + KEEP) (.d (.int (fb : Nat)) :: xs)) t.np)
  st : ∀ x, (so.names.lookup x = some .local ∨ so.names.lookup x = some .cell) → L2.Loc X.env.scope x ∧ (X.fn x = true ∨ X.env.scope.names.lookup x = some .local)
theorem XOk.cline {FT : List Fn} {d : Nat} {N : List Str} {sc so : Scope} {X : Cx} (x : XOk FT d N sc so X) : X.A.units + 65 < cLine := by
  have := x.room.un
  omega
theorem XOk.blk {FT : List Fn} {d : Nat} {N : List Str} {sc so : Scope} {X : Cx} (x : XOk FT d N sc so X) {scope : Scope} (hk : scope.kind = .function) (s : Shared) (H : Hp) (C : Addr) (cl : List (Str × Addr)) (fp : List Addr) :
    XOk FT d N (relS scope sc) scope (X.blk s H scope (compEnvC scope cl C X.env) fp) where
  calm := x.calm
  hN := x.hN
  nd := x.nd
  hsc := by
    have : (compEnvC scope cl C X.env).scope = relS scope X.env.scope := rfl
    show (compEnvC scope cl C X.env).scope = relS scope sc
    rw [this, x.hsc]
  kind := hk
  room := x.room
  xe := rfl
  bl := x.bl
  fns := x.fns
  fnk := x.fnk
  st := fun y hy => by
    have e : (X.blk s H scope (compEnvC scope cl C X.env) fp).env.scope = relS scope X.env.scope := rfl
    have k : ∀ k, k ≠ NameKind.free → scope.names.lookup y = some k → (relS scope X.env.scope).names.lookup y = some k := fun k hk hl => lookup_relS_keep hk hl
    rcases hy with hy | hy
    · have := k _ (by decide) hy
      exact ⟨.inl this, .inr this⟩
    · have := k _ (by decide) hy
      refine ⟨.inr this, .inl ?_⟩
      show (scope.names.lookup y == some NameKind.cell) = true
      rw [hy]
      rfl
theorem call_len {FT : List Fn} {d f : Nat} {t : Fn} (ht : FT[f]? = some t) {xs : List PV} {h : Hs} {r : PV × Hs} (e : call FT d f xs h = some r) : xs.length = t.np := by
  cases d with
  | zero => cases e
  | succ d =>
    unfold call at e
    rw [ht] at e
    dsimp only at e
    split at e
    · assumption
    · cases e

theorem keep_none {FT : List Fn} (hl : FT.length ≤ KEEP) (f : Nat) : FT[f + KEEP]? = none := List.getElem?_eq_none (by omega)
theorem callk_some {FT : List Fn} {d f fb : Nat} {t : Fn} (hl : FT.length ≤ KEEP) (ht : FT[f]? = some t) {xs : List PV} {h : Hs} : call FT (d + 1) (f + KEEP) (.d (.int (fb : Nat)) :: xs) h = (if xs.length = t.np then
          match evSs (call FT d) fb t.body ((convs xs h).1.map some ++ List.replicate (t.N.length - t.np) none) (convs xs h).2 with
          | some (.rt v, h2) => some (v, h2)
          | some (.nx _, h2) => some (.d .non, h2)
          | _ => none
        else none) := by
  unfold call
  rw [keep_none hl f, Nat.add_sub_cancel, ht]
  rfl
theorem callk_len {FT : List Fn} {d f fb : Nat} {t : Fn} (hl : FT.length ≤ KEEP) (ht : FT[f]? = some t) {xs : List PV} {h : Hs} {r : PV × Hs} (e : call FT d (f + KEEP) (.d (.int (fb : Nat)) :: xs) h = some r) : xs.length = t.np := by
  cases d with
  | zero => cases e
  | succ d =>
    rw [callk_some hl ht] at e
    split at e
    · assumption
    · cases e

/-! ### targets -/
section
variable {K : PySem.W.Frag} {B : List Nat}
mutual
theorem snd_T {FT : List Fn} {d : Nat} {N : List Str} {sc so : Scope} {X : Cx} (x : XOk FT d N sc so X) : ∀ (t : T) (e : Expr), ckT N so e t = true → PG X e (tT X.K B t)
  | .nm i, e, h => by
    unfold ckT at h
    split at h
    · rename_i y pos j heq
      cases heq
      rw [Bool.and_eq_true, decide_eq_true_eq] at h
      obtain ⟨l, f⟩ := x.st y (loc_of h.2)
      exact g_nm (by rw [x.hN]; exact x.nd) (by rw [x.hN]; exact h.1) l f
    · rename_i heq
      cases heq
    · cases h
  | .tup ts, e, h => by
    unfold ckT at h
    split at h
    · rename_i heq
      cases heq
    · rename_i es k pos ts' heq
      cases heq
      obtain ⟨p, l, n, f⟩ := snd_Ts x ts es h
      exact g_tup x.calm p l n f
    · cases h
theorem snd_Ts {FT : List Fn} {d : Nat} {N : List Str} {sc so : Scope} {X : Cx} (x : XOk FT d N sc so X) : ∀ (ts : List T) (es : List Expr), ckTs N so es ts = true → PGs X es (tTs X.K B ts) ∧ es.length = ts.length ∧ (assignEach es X.env).length = es.length ∧ (assignEach es X.env).findIdx? (·.1) = none
  | [], es, h => by
    unfold ckTs at h
    split at h
    · exact ⟨gs_nil, rfl, rfl, rfl⟩
    · rename_i heq
      cases heq
    · cases h
  | t :: ts, es, h => by
    unfold ckTs at h
    split at h
    · rename_i heq
      cases heq
    · rename_i e es t' ts' heq
      cases heq
      simp only [Bool.and_eq_true] at h
      obtain ⟨p, l, n, f⟩ := snd_Ts x ts es h.2
      have ea : assignEach (e :: es) X.env = (false, assign e X.env) :: assignEach es X.env := by
        have := h.1.1
        cases e <;> first | rfl | cases this
      refine ⟨gs_cons (snd_T x t e h.1.2) p (by rw [ea]; rfl), by rw [List.length_cons, List.length_cons, l], by rw [ea, List.length_cons, List.length_cons, n], ?_⟩
      rw [ea, List.findIdx?_cons, f]
      rfl
    · cases h
end
end
theorem peE {X : Cx} {K : PySem.W.Frag} {B : List Nat} {e : Expr} {m m' : Env → M PV} (h : PE X e (tM K B m)) (q : ∀ env, m' env = m env) : PE X e (tM K B m') := by
  rw [show m' = m from funext q]
  exact h
theorem ptE {X : Cx} {K : PySem.W.Frag} {B : List Nat} {e : Expr} {m m' : Env → M PV} (h : PT X e (tMB K B (mB m))) (q : ∀ env, m' env = m env) : PT X e (tMB K B (mB m')) := by
  rw [show m' = m from funext q]
  exact h
theorem own_map {N : List Str} : ∀ own : List Nat, (ownN N own).map (·.2) = own
  | [] => rfl
  | i :: r => by
    show i :: (ownN N r).map (·.2) = i :: r
    rw [own_map r]
theorem tys_of {X : Cx} {sc : Scope} (hs : X.env.scope = sc) (hb : ∀ x ∈ bltAll, X.mg x = none) : ∀ {es : List Expr} {ts : List Ty}, ckTys sc es ts = true → PA X es (fun _ H Q => Q (ts.map fun t => V.ty t.nm) H)
  | [], ts, h => by
    cases ts with
    | nil => exact paI pa_nil fun σ H Q q => q
    | cons t ts => cases h
  | e :: es, ts, h => by
    cases ts with
    | nil => cases h
    | cons t ts =>
      unfold ckTys at h
      rw [Bool.and_eq_true] at h
      have h1 := h.1
      unfold ckTy at h1
      split at h1
      · rename_i y pos t2
        rw [Bool.and_eq_true, decide_eq_true_eq] at h1
        obtain ⟨rfl, g⟩ := h1
        exact paI (pa_cons (pe_bltn (v := .ty t.nm) (gl_of hs g) (hb _ ty_mem) (boot_ty _) (show RelV (.ty t.nm) (.type t.nm) from rfl) ty_ne.1 ty_ne.2) (tys_of hs hb h.2) rfl) fun σ H Q q => q
      · cases h1
end Pe
/-! Pe: expressions, what is checked is sound. -/
namespace Pe
open PySem PySem.Spec PyProof.Rows L2 RZ

structure SndE (FT : List Fn) (d : Nat) (N : List Str) (B : List Nat) (fb n : Nat) : Prop where
  e : ∀ sc so X, XOk FT d N sc so X → ∀ e e', ckE FT N n sc e e' = true → PE X e (tM X.K B (evE (call FT d) fb e'))
  v : ∀ sc so X, XOk FT d N sc so X → ∀ op vs e', ckV FT N n sc op vs e' = true → ∀ pos, PE X (.BoolOp op vs pos) (tM X.K B (evE (call FT d) fb e'))
  b : ∀ sc so X, XOk FT d N sc so X → ∀ e e', ckB FT N n sc e e' = true → PT X e (tMB X.K B (mB (evE (call FT d) fb e')))
  w : ∀ sc so X, XOk FT d N sc so X → ∀ op vs e', ckW FT N n sc op vs e' = true → ∀ pos, PW X (.BoolOp op vs pos) (tMB X.K B (mB (evE (call FT d) fb e')))
  es : ∀ sc so X, XOk FT d N sc so X → ∀ es es', ckEs FT N n sc es es' = true → PA X es (tMs X.K B (evEs (call FT d) fb es')) ∧ (∀ e ∈ es, noStar e = true)
  o : ∀ sc so X, XOk FT d N sc so X → ∀ o f e', ckO FT N n sc o f e' = true → PO X o (tMO X.K B (mPart f (evE (call FT d) fb e')))
  i : ∀ sc so X, XOk FT d N sc so X → ∀ tg e it, ckI FT N n sc tg e it = true → PI X tg e (tIt X.K B (evIt (call FT d) fb it))

section
variable {FT : List Fn} {d : Nat} {N : List Str} {B : List Nat} {fb n : Nat} {sc so : Scope} {X : Cx}
theorem snd_call (S : SndE FT d N B fb n) (x : XOk FT d N sc so X) {y : Str} {p pos : Pos} {args : List Expr} {f : Nat} {as : List E} {t : Fn} (ht : FT[f]? = some t) (hn : t.name = y) (hg : glB sc y = true) (ho : nameOk y = true) (ha : ckEs FT N n sc args as = true) :
    PE X (.Call (.Name y p) args [] pos) (tM X.K B (evE (call FT d) fb (.call f as))) := by
  obtain ⟨a, fd, h1, h2, h3, h4, F⟩ := x.fns f t ht
  obtain ⟨n1, n2, n3⟩ := names_of ho
  obtain ⟨pa, st⟩ := S.es sc so X x args as ha
  rw [hn] at h1
  have F' : FnOk X.prog X.w X.K X.mg X.base CX0 d a fd (t.N.take t.np) (spC X.K (call FT d f) (t.N.take t.np).length) := by
    rw [h4]
    exact F
  have hl : ∀ xs h r, call FT d f xs h = some r → xs.length = (t.N.take t.np).length := fun xs h r e => by
    rw [h4]
    exact call_len ht e
  cases args with
  | nil =>
    have has : as = [] := by
      cases n with
      | zero => cases ha
      | succ n =>
        cases as with
        | nil => rfl
        | cons b bs => cases ha
    subst has
    exact peE (e_call0 F' x.room (gl_of x.hsc hg) h1 h2 h3 n1 hl) fun env => rfl
  | cons b bs =>
    exact peE (e_call F' x.room (gl_of x.hsc hg) h1 h2 h3 pa n1 (star_of (st b List.mem_cons_self)) (back_none fun e he => st e (List.mem_cons_of_mem _ he)) hl) fun env => rfl
theorem snd_callk (hB : ∀ b ∈ B, b ≤ fb) (S : SndE FT d N B fb n) (x : XOk FT d N sc so X) {y : Str} {p pos : Pos} {b : Expr} {bs : List Expr} {f : Nat} {as : List E} {t : Fn} (ht : FT[f]? = some t) (hn : t.name = y) (hk : FT.length ≤ KEEP) (hg : glB sc y = true) (ho : nameOk y = true) (ha : ckEs FT N n sc (b :: bs) as = true) :
    PE X (.Call (.Name y p) (b :: bs) [] pos) (tM X.K B (evE (call FT d) fb (.callk f as))) := by
  obtain ⟨a, fd, h1, h2, h3, h4, F⟩ := x.fnk hk f t ht
  obtain ⟨n1, n2, n3⟩ := names_of ho
  obtain ⟨pa, st⟩ := S.es sc so X x _ as ha
  rw [hn] at h1
  have F' : FnOk X.prog X.w X.K X.mg X.base CX0 d a fd (t.N.take t.np) (spK X.K (fun fb xs => call FT d (f + KEEP) (.d (.int (fb : Nat)) :: xs)) (t.N.take t.np).length) := by
    rw [h4]
    exact F
  have hl : ∀ xs h r, call FT d (f + KEEP) (.d (.int (fb : Nat)) :: xs) h = some r → xs.length = (t.N.take t.np).length := fun xs h r e => by
    rw [h4]
    exact callk_len hk ht e
  exact peE (e_callk hB F' x.room (gl_of x.hsc hg) h1 h2 h3 pa n1 (star_of (st b List.mem_cons_self)) (back_none fun e he => st e (List.mem_cons_of_mem _ he)) hl) fun env => rfl
theorem snd_blt (S : SndE FT d N B fb n) (x : XOk FT d N sc so X) {y : Str} {p pos : Pos} {a : Expr} {args : List Expr} {bl : Blt} {as : List E} (hn : y = bl.nm) (ni : y ≠ "isinstance") (hg : glB sc y = true) (ha : ckEs FT N n sc (a :: args) as = true) :
    PE X (.Call (.Name y p) (a :: args) [] pos) (tM X.K B (evE (call FT d) fb (.blt bl as))) := by
  obtain ⟨pa, st⟩ := S.es sc so X x _ as ha
  subst hn
  refine peE (e_blt x.calm (fun ts e => ni ?_) (gl_of x.hsc hg) (x.bl _ blt_mem) bts pa blt_ne.1 blt_ne.2 (star_of (st a List.mem_cons_self)) (back_none fun e he => st e (List.mem_cons_of_mem _ he))) fun env => rfl
  rw [e]
  rfl
theorem isi_name : bootBuiltins "isinstance" = some (.builtin "isinstance") := by decide +kernel
theorem noStar_of_ck {n : Nat} {e : Expr} {e' : E} (h : ckE FT N n sc e e' = true) : noStar e = true := by
  cases n with
  | zero => cases h
  | succ n =>
    cases e with
    | Starred a b =>
      unfold ckE at h
      cases e' <;> cases h
    | _ => rfl
theorem snd_isi (S : SndE FT d N B fb n) (x : XOk FT d N sc so X) {p pos : Pos} {a t : Expr} {ts : List Ty} {a' : E} (hg : glB sc "isinstance" = true) (ha : ckE FT N n sc a a' = true) (ht : (match t with
      | .Tuple es _ _ => ckTys sc es ts && decide (ts.length < 100)
      | t => match ts with
        | [ty] => ckTy sc t ty
        | _ => false) = true) : PE X (.Call (.Name "isinstance" p) [a, t] [] pos) (tM X.K B (evE (call FT d) fb (.blt (.isi ts) [a']))) := by
  have pa := S.e sc so X x a a' ha
  have na := noStar_of_ck ha
  have gi : Gl X "isinstance" := gl_of x.hsc hg
  have mi : X.mg "isinstance" = none := x.bl _ (by decide +kernel)
  split at ht
  · rename_i es k p2
    rw [Bool.and_eq_true, decide_eq_true_eq] at ht
    exact peE (e_isiT (Nat.le_trans (Nat.le_of_lt ht.2) (by decide +kernel)) (tys_of x.hsc x.bl ht.1) gi mi isi_name pa (by decide +kernel) (by decide +kernel) (star_of na)) fun env => rfl
  · split at ht
    · rename_i ty
      unfold ckTy at ht
      split at ht
      · rename_i y p2 t2
        rw [Bool.and_eq_true, decide_eq_true_eq] at ht
        obtain ⟨rfl, g⟩ := ht
        have hb : PE X (.Name ty.pyn p2) (tC (.ty ty.nm)) := pe_bltn (v := .ty ty.nm) (gl_of x.hsc g) (x.bl _ ty_mem) (boot_ty _) (show RelV (.ty ty.nm) (.type ty.nm) from rfl) ty_ne.1 ty_ne.2
        exact peE (e_isi1 hb gi mi isi_name pa (by decide +kernel) (by decide +kernel) (star_of na) rfl rfl) fun env => rfl
      · cases ht
    · cases ht
theorem snd_mth (hB : ∀ b ∈ B, b ≤ fb) (S : SndE FT d N B fb n) (x : XOk FT d N sc so X) {apos cpos : Pos} {o : Expr} {args : List Expr} {m : Str} {m' : Mth} {o' : E} {as : List E} (hm : m = m'.nm) (hc : noCall o = true) (hl : (apos.endLine == cpos.line) = true) (hn : args.length < 20) (ho : ckE FT N n sc o o' = true) (ha : ckEs FT N n sc args as = true) :
    PE X (.Call (.Attribute o m apos) args [] cpos) (tM X.K B (evE (call FT d) fb (.mth m' o' as))) := by
  subst hm
  have po := S.e sc so X x o o' ho
  obtain ⟨pa, st⟩ := S.es sc so X x args as ha
  cases args with
  | nil =>
    have has : as = [] := by
      cases n with
      | zero => cases ha
      | succ n =>
        cases as with
        | nil => rfl
        | cons b bs => cases ha
    subst has
    exact peE (e_mth0 x.cline hB po (base_of hc) hl) fun env => rfl
  | cons b bs =>
    rw [List.length_cons] at hn
    refine peE (e_mth x.cline hB po pa (base_of hc) (by omega) hl (star_of (st b List.mem_cons_self)) (back_none fun e he => st e (List.mem_cons_of_mem _ he)) ?_) fun env => rfl
    rw [back_all st]
    show (true && true && decide (bs.length + 1 + 0 + 0 < 30)) = true
    rw [decide_eq_true (by omega)]
    rfl
theorem slc_same {ma ml mh : Env → M PV} {f1 f2 : Bool} {env : Env} : M.bnd (ma env) (fun x => M.bnd (if f1 then ml env else M.ret (.d .non)) fun l => M.bnd (if f2 then mh env else M.ret (.d .non)) fun u => match optI f1 l, optI f2 u with
      | some l, some u => sliceV x l u
      | _, _ => M.no) = M.bnd (ma env) fun x => M.bnd (mPart f1 ml env) fun l => M.bnd (mPart f2 mh env) fun u => sliceV x l u := by
  funext h
  unfold mPart M.bnd
  cases ma env h with
  | none => rfl
  | some r =>
    obtain ⟨x, h1⟩ := r
    dsimp only
    cases (if f1 then ml env else M.ret (.d .non)) h1 with
    | none => rfl
    | some r =>
      obtain ⟨l, h2⟩ := r
      dsimp only
      cases e1 : optI f1 l with
      | none =>
        dsimp only [M.of, M.no]
        cases (if f2 then mh env else M.ret (.d .non)) h2 with
        | none => rfl
        | some r => rfl
      | some i =>
        dsimp only [M.of, M.ret]
        cases (if f2 then mh env else M.ret (.d .non)) h2 with
        | none => rfl
        | some r =>
          obtain ⟨u, h3⟩ := r
          dsimp only
          cases optI f2 u with
          | none => rfl
          | some j => rfl
theorem snd_comp (S : SndE FT d N B fb n) (x : XOk FT d N sc so X) {elt tg : Expr} {ifs : List Expr} {scope : Scope} {own : List Nat} {tg' : T} {hc : Bool} {c' elt' : E} (h1 : blkC N sc scope (ownN N own) = true) (h2 : ckT N scope tg tg' = true) (h3 : (tg'.slots.all fun i => decide (i ∈ own)) = true)
    (h5 : ckE FT N n (relS scope sc) elt elt' = true) (h6 : (match ifs, hc with
      | [], false => true
      | [c], true => ckB FT N n (relS scope sc) c c'
      | _, _ => false) = true) : BlkOk X.N X.env.scope scope (ownN N own) ∧ (∀ i ∈ tg'.slots, i ∈ (ownN N own).map (·.2)) ∧
    (∀ (s : Shared) (H : Hp) (C : Addr) (cl : List (Str × Addr)) (fp : List Addr), PG (X.blk s H scope (compEnvC scope cl C X.env) fp) tg (tT X.K B tg')) ∧
    (∀ (s : Shared) (H : Hp) (C : Addr) (cl : List (Str × Addr)) (fp : List Addr), PTs (X.blk s H scope (compEnvC scope cl C X.env) fp) ifs (tMB X.K B (tests hc (evE (call FT d) fb c')))) ∧
    (∀ (s : Shared) (H : Hp) (C : Addr) (cl : List (Str × Addr)) (fp : List Addr), PE (X.blk s H scope (compEnvC scope cl C X.env) fp) elt (tM X.K B (evE (call FT d) fb elt'))) := by
  have ok := blkOk_by h1
  refine ⟨by rw [x.hN, x.hsc]; exact ok, fun i hi => ?_, fun s H C cl fp => ?_, fun s H C cl fp => ?_, fun s H C cl fp => ?_⟩
  · rw [own_map]
    exact of_decide_eq_true (List.all_eq_true.mp h3 i hi)
  · exact snd_T (x.blk ok.kind s H C cl fp) tg' tg h2
  · split at h6
    · exact pts_yes
    · exact pts_if (S.b _ _ _ (x.blk ok.kind s H C cl fp) _ _ h6)
    · cases h6
  · exact S.e _ _ _ (x.blk ok.kind s H C cl fp) _ _ h5
theorem comp_eq {own : List Nat} {tg' : T} {it' : It} {hc : Bool} {c' elt' : E} (env : Env) : evE (call FT d) fb (.comp own tg' it' hc c' elt') env = mComp (evIt (call FT d) fb it') tg' ((ownN N own).map (·.2)) (tests hc (evE (call FT d) fb c')) (evE (call FT d) fb elt') env := by
  rw [own_map]
  rfl
theorem dcomp_eq {own : List Nat} {tg' : T} {it' : It} {hc : Bool} {c' k' v' : E} (env : Env) : evE (call FT d) fb (.dcomp own tg' it' hc c' k' v') env = mDcomp (evIt (call FT d) fb it') tg' ((ownN N own).map (·.2)) (tests hc (evE (call FT d) fb c')) (evE (call FT d) fb k') (evE (call FT d) fb v') env := by
  rw [own_map]
  rfl
theorem all_in {xs ys : List Nat} (h : (xs.all fun i => decide (i ∈ ys)) = true) : ∀ i ∈ xs, i ∈ ys := fun i hi => of_decide_eq_true (List.all_eq_true.mp h i hi)
theorem own_in {own own1 : List Nat} (h : (own1.all fun i => decide (i ∈ own)) = true) : ∀ i ∈ own1, i ∈ (ownN N own).map (·.2) := fun i hi => by
  rw [own_map]
  exact all_in h i hi
theorem lsc_eq {own : List Nat} {tg' : T} {it' : It} {hc : Bool} {c' elt' : E} (env : Env) : evE (call FT d) fb (.lsc own tg' it' hc c' elt') env = mLsc (evIt (call FT d) fb it') tg' ((ownN N own).map (·.2)) (tests hc (evE (call FT d) fb c')) (evE (call FT d) fb elt') env := by
  rw [own_map]
  rfl
theorem comp2_eq {own own1 : List Nat} {tg' tg1' : T} {it' it1' : It} {hc hc1 : Bool} {c' c1' elt' : E} (env : Env) : evE (call FT d) fb (.comp2 own tg' it' hc c' own1 tg1' it1' hc1 c1' elt') env = mC2 (evIt (call FT d) fb it') tg' ((ownN N own).map (·.2)) (tests hc (evE (call FT d) fb c')) (evIt (call FT d) fb it1') tg1' own1 (tests hc1 (evE (call FT d) fb c1')) (evE (call FT d) fb elt') env := by
  rw [own_map]
  rfl
theorem not_set_iter {n : Nat} {tg e : Expr} {it : It} (h : ckI FT N n sc tg e it = true) : ∀ (env : PySem.Env) x, foldedSetIterable e env x = pure x := by
  intro env
  cases n with
  | zero => cases h
  | succ n =>
    unfold ckI at h
    cases it with
    | seq e' =>
      dsimp only at h
      rw [Bool.and_eq_true] at h
      exact fold_of h.1
    | rng1 a => dsimp only at h; split at h <;> first | (intro _; rfl) | cases h
    | rng2 a b => dsimp only at h; split at h <;> first | (intro _; rfl) | cases h
    | rngd a b => dsimp only at h; split at h <;> first | (intro _; rfl) | cases h
    | enum a => dsimp only at h; split at h <;> first | (intro _; rfl) | cases h
    | zip a b => dsimp only at h; split at h <;> first | (intro _; rfl) | cases h
end
theorem snd_E {FT : List Fn} {d : Nat} {N : List Str} {B : List Nat} {fb : Nat} (hB : ∀ b ∈ B, b ≤ fb) : ∀ n, SndE FT d N B fb n := by
  intro n
  induction n with
  | zero => exact ⟨fun _ _ _ _ _ _ h => absurd h Bool.false_ne_true, fun _ _ _ _ _ _ _ h => absurd h Bool.false_ne_true, fun _ _ _ _ _ _ h => absurd h Bool.false_ne_true,
      fun _ _ _ _ _ _ _ h => absurd h Bool.false_ne_true, fun _ _ _ _ _ _ h => absurd h Bool.false_ne_true, fun _ _ _ _ _ _ _ h => absurd h Bool.false_ne_true, fun _ _ _ _ _ _ _ h => absurd h Bool.false_ne_true⟩
  | succ n S =>
    refine ⟨fun sc so X x e e' h => ?_, fun sc so X x op vs e' h pos => ?_, fun sc so X x e e' h => ?_, fun sc so X x op vs e' h pos => ?_, fun sc so X x es es' h => ?_, fun sc so X x o f e' h => ?_, fun sc so X x tg e it h => ?_⟩
    · -- expressions
      unfold ckE at h
      split at h
      · rename_i y pos i
        simp only [Bool.and_eq_true, decide_eq_true_eq] at h
        obtain ⟨⟨h1, h2⟩, h3⟩ := h
        obtain ⟨n1, n2, _⟩ := names_of h3
        exact peE (e_var (by rw [x.hN]; exact h1) (by rw [x.hsc]; exact vis_of h2) n1 n2) fun env => rfl
      · exact peE (cst_of h) fun env => rfl
      · simp only [Bool.and_eq_true, decide_eq_true_eq] at h
        obtain ⟨⟨rfl, h2⟩, h3⟩ := h
        exact peE (e_bin (S.e _ _ _ x _ _ h2) (S.e _ _ _ x _ _ h3)) fun env => rfl
      · simp only [Bool.and_eq_true, decide_eq_true_eq] at h
        obtain ⟨rfl, h2⟩ := h
        exact peE (e_un (S.e _ _ _ x _ _ h2)) fun env => rfl
      · exact peE (e_nt (S.e _ _ _ x _ _ h)) fun env => rfl
      · exact S.v _ _ _ x _ _ _ h _
      · simp only [Bool.and_eq_true, decide_eq_true_eq] at h
        obtain ⟨⟨⟨rfl, h2⟩, h3⟩, h4⟩ := h
        exact peE (e_cmp x.cline (S.e _ _ _ x _ _ h3) (S.e _ _ _ x _ _ h4) (behind_of h2)) fun env => rfl
      · simp only [Bool.and_eq_true, decide_eq_true_eq] at h
        obtain ⟨⟨⟨⟨⟨rfl, rfl⟩, h2⟩, h3⟩, h4⟩, h5⟩ := h
        exact peE (e_chn x.cline (S.e _ _ _ x _ _ h3) (S.e _ _ _ x _ _ h4) (S.e _ _ _ x _ _ h5) (last_of h2)) fun env => rfl
      · simp only [Bool.and_eq_true] at h
        obtain ⟨⟨h1, h2⟩, h3⟩ := h
        exact peE (e_ifx (S.b _ _ _ x _ _ h1) (S.e _ _ _ x _ _ h2) (S.e _ _ _ x _ _ h3)) fun env => rfl
      · simp only [Bool.and_eq_true] at h
        obtain ⟨⟨⟨h1, h2⟩, h3⟩, h4⟩ := h
        split at h1
        · rename_i t ht
          exact snd_call S x ht (of_decide_eq_true h1) h2 h3 h4
        · cases h1
      · simp only [Bool.and_eq_true, decide_eq_true_eq] at h
        obtain ⟨⟨⟨⟨h1, hk⟩, h2⟩, h3⟩, h4⟩ := h
        split at h1
        · rename_i t ht
          exact snd_callk hB S x ht (of_decide_eq_true h1) hk h2 h3 h4
        · cases h1
      · simp only [Bool.and_eq_true, decide_eq_true_eq] at h
        obtain ⟨⟨⟨rfl, h2⟩, h3⟩, h4⟩ := h
        exact snd_isi S x h2 h3 h4
      · simp only [Bool.and_eq_true, decide_eq_true_eq, Bool.not_eq_true', decide_eq_false_iff_not] at h
        obtain ⟨⟨⟨h1, h2⟩, h3⟩, h4⟩ := h
        exact snd_blt S x h1 h2 h3 h4
      · simp only [Bool.and_eq_true, decide_eq_true_eq] at h
        obtain ⟨⟨⟨⟨⟨h1, h2⟩, h3⟩, h4⟩, h5⟩, h6⟩ := h
        exact snd_mth hB S x h1 h2 h3 h4 h5 h6
      · simp only [Bool.and_eq_true, decide_eq_true_eq] at h
        obtain ⟨⟨⟨⟨⟨rfl, h2⟩, h3⟩, h4⟩, h5⟩, h6⟩ := h
        exact peE (e_join (S.e _ _ _ x _ _ h5) (S.e _ _ _ x _ _ h6) (star_of h4) (base_of h2) h3) fun env => rfl
      · rename_i t a'
        simp only [Bool.and_eq_true, decide_eq_true_eq] at h
        obtain ⟨⟨⟨⟨⟨rfl, rfl⟩, h3⟩, h4⟩, h5⟩, h6⟩ := h
        cases t with
        | true => exact peE (e_lrgT x.calm (gl_of x.hsc h3) (x.bl _ (by decide +kernel)) (gl_of x.hsc h4) (x.bl _ (by decide +kernel)) (S.e _ _ _ x _ _ h6) (star_of h5)) fun env => rfl
        | false => exact peE (e_lrgF x.calm (gl_of x.hsc h3) (x.bl _ (by decide +kernel)) (gl_of x.hsc h4) (x.bl _ (by decide +kernel)) (S.e _ _ _ x _ _ h6) (star_of h5)) fun env => rfl
      · simp only [Bool.and_eq_true, decide_eq_true_eq] at h
        obtain ⟨⟨⟨⟨⟨rfl, rfl⟩, h3⟩, h4⟩, h5⟩, h6⟩ := h
        exact peE (e_sset x.calm (gl_of x.hsc h3) (x.bl _ (by decide +kernel)) (gl_of x.hsc h4) (x.bl _ (by decide +kernel)) (S.e _ _ _ x _ _ h6) (star_of h5)) fun env => rfl
      · simp only [Bool.and_eq_true, decide_eq_true_eq] at h
        obtain ⟨⟨⟨⟨⟨rfl, rfl⟩, h3⟩, h4⟩, h5⟩, h6⟩ := h
        exact peE (e_lset x.calm (gl_of x.hsc h3) (x.bl _ (by decide +kernel)) (gl_of x.hsc h4) (x.bl _ (by decide +kernel)) (S.e _ _ _ x _ _ h6) (star_of h5)) fun env => rfl
      · simp only [Bool.and_eq_true, decide_eq_true_eq] at h
        obtain ⟨⟨⟨rfl, h2⟩, h3⟩, h4⟩ := h
        exact peE (e_rgv (gl_of x.hsc h2) (x.bl _ (by decide +kernel)) (S.e _ _ _ x _ _ h4) (star_of h3)) fun env => rfl
      · rename_i mx a'
        simp only [Bool.and_eq_true, decide_eq_true_eq] at h
        obtain ⟨⟨⟨⟨h1, rfl⟩, h3⟩, h4⟩, h5⟩ := h
        cases mx with
        | true =>
          obtain rfl : _ = ("max" : Str) := h1
          exact peE (e_mxd true rfl x.calm (gl_of x.hsc h3) (x.bl _ (by decide +kernel)) (S.e _ _ _ x _ _ h5) (star_of h4)) fun env => rfl
        | false =>
          obtain rfl : _ = ("min" : Str) := h1
          exact peE (e_mxd false rfl x.calm (gl_of x.hsc h3) (x.bl _ (by decide +kernel)) (S.e _ _ _ x _ _ h5) (star_of h4)) fun env => rfl
      · exact peE (e_tup (S.es _ _ _ x _ _ h).1) fun env => rfl
      · exact peE (e_lst (S.es _ _ _ x _ _ h).1) fun env => rfl
      · exact peE (e_rsl (S.e _ _ _ x _ _ h)) fun env => rfl
      · simp only [Bool.and_eq_true] at h
        obtain ⟨⟨h1, h2⟩, h3⟩ := h
        exact peE (e_slc (S.e _ _ _ x _ _ h1) (S.o _ _ _ x _ _ _ h2) (S.o _ _ _ x _ _ _ h3)) fun env => slc_same
      · simp only [Bool.and_eq_true] at h
        obtain ⟨⟨h1, h2⟩, h3⟩ := h
        exact peE (e_idx (S.e _ _ _ x _ _ h2) (S.e _ _ _ x _ _ h3) (plainIx_of h1)) fun env => rfl
      · simp only [Bool.and_eq_true] at h
        obtain ⟨⟨⟨⟨⟨h1, h2⟩, h3⟩, h4⟩, h5⟩, h6⟩ := h
        obtain ⟨k1, k2, k3, k4, k5⟩ := snd_comp S x h1 h2 h3 h5 h6
        exact peE (e_comp x.calm (by rw [x.hN]; exact x.nd) (S.i _ _ _ x _ _ _ h4) k1 k2 k3 k4 k5 (not_set_iter h4 _)) fun env => comp_eq env
      · simp only [Bool.and_eq_true] at h
        obtain ⟨⟨⟨⟨⟨⟨h1, h2⟩, h3⟩, h4⟩, h5⟩, h7⟩, h6⟩ := h
        obtain ⟨k1, k2, k3, k4, k5⟩ := snd_comp S x h1 h2 h3 h5 h6
        obtain ⟨_, _, _, _, k6⟩ := snd_comp S x h1 h2 h3 h7 h6
        exact peE (e_dcomp x.calm (by rw [x.hN]; exact x.nd) (S.i _ _ _ x _ _ _ h4) k1 k2 k3 k4 k5 k6 (not_set_iter h4 _)) fun env => dcomp_eq env
      · simp only [Bool.and_eq_true, decide_eq_true_eq] at h
        obtain ⟨⟨⟨⟨⟨⟨⟨g1, g2⟩, h1⟩, h2⟩, h3⟩, h4⟩, h5⟩, h6⟩ := h
        subst g1
        obtain ⟨k1, k2, k3, k4, k5⟩ := snd_comp S x h1 h2 h3 h5 h6
        exact peE (e_lsc x.calm (gl_of x.hsc g2) (x.bl _ (by decide +kernel)) (by rw [x.hN]; exact x.nd) (S.i _ _ _ x _ _ _ h4) k1 k2 k3 k4 k5 (not_set_iter h4 _)) fun env => lsc_eq env
      · simp only [Bool.and_eq_true] at h
        obtain ⟨⟨⟨⟨⟨⟨⟨⟨⟨⟨⟨h1, h2⟩, h3⟩, h4⟩, h5⟩, h6⟩, j2⟩, j3⟩, j7⟩, j8⟩, j4⟩, j6⟩ := h
        obtain ⟨k1, k2, k3, k4, k5⟩ := snd_comp S x h1 h2 h3 h5 h6
        obtain ⟨_, _, l3, l4, _⟩ := snd_comp S x h1 j2 j3 h5 j6
        exact peE (e_comp2 x.calm (by rw [x.hN]; exact x.nd) (S.i _ _ _ x _ _ _ h4) k1 k2 (own_in j8) (all_in j7) k3 k4 (fun s H C cl fp => S.i _ _ _ (x.blk (blkOk_by h1).kind s H C cl fp) _ _ _ j4) l3 l4 k5 (not_set_iter h4 _) (not_set_iter j4)) fun env => comp2_eq env
      · cases h
    · -- values of and, or
      unfold ckV at h
      split at h
      · exact pe_one (S.e _ _ _ x _ _ h)
      · split at h
        · rw [Bool.and_eq_true] at h
          exact peE (e_an (S.e _ _ _ x _ _ h.1) (S.v _ _ _ x _ _ _ h.2 pos)) fun env => rfl
        · rw [Bool.and_eq_true] at h
          exact peE (e_or (S.e _ _ _ x _ _ h.1) (S.v _ _ _ x _ _ _ h.2 pos)) fun env => rfl
        · cases h
      · cases h
    · -- tests
      unfold ckB at h
      split at h
      · split at h
        · exact ptE (t_not (S.b _ _ _ x _ _ h)) fun env => rfl
        · cases h
      · exact (S.w _ _ _ x _ _ _ h _).pt
      · split at h
        · simp only [Bool.and_eq_true, decide_eq_true_eq] at h
          obtain ⟨⟨⟨rfl, h2⟩, h3⟩, h4⟩ := h
          exact ptE (t_cmp x.cline (S.e _ _ _ x _ _ h3) (S.e _ _ _ x _ _ h4) (behind_of h2)) fun env => rfl
        · cases h
      · split at h
        · simp only [Bool.and_eq_true, decide_eq_true_eq] at h
          obtain ⟨⟨⟨⟨⟨rfl, rfl⟩, h2⟩, h3⟩, h4⟩, h5⟩ := h
          exact ptE (t_chn x.cline (S.e _ _ _ x _ _ h3) (S.e _ _ _ x _ _ h4) (S.e _ _ _ x _ _ h5) (last_of h2)) fun env => rfl
        · cases h
      · exact t_val (S.e _ _ _ x _ _ h) fun _ => rfl
      · exact t_val (S.e _ _ _ x _ _ h) fun _ => rfl
      · exact t_val (S.e _ _ _ x _ _ h) fun _ => rfl
      · exact t_val (S.e _ _ _ x _ _ h) fun _ => rfl
      · cases h
    · -- tests of and, or
      unfold ckW at h
      split at h
      · exact w_one (S.b _ _ _ x _ _ h)
      · split at h
        · rw [Bool.and_eq_true] at h
          have := w_an (S.b _ _ _ x _ _ h.1) (S.w _ _ _ x _ _ _ h.2 pos)
          exact this
        · rw [Bool.and_eq_true] at h
          have := w_or (S.b _ _ _ x _ _ h.1) (S.w _ _ _ x _ _ _ h.2 pos)
          exact this
        · cases h
      · cases h
    · -- arguments
      unfold ckEs at h
      split at h
      · exact ⟨a_nil, fun _ z => absurd z List.not_mem_nil⟩
      · simp only [Bool.and_eq_true] at h
        obtain ⟨⟨h1, h2⟩, h3⟩ := h
        obtain ⟨p, s⟩ := S.es _ _ _ x _ _ h3
        refine ⟨a_cons (S.e _ _ _ x _ _ h2) p (star_of h1), fun e he => ?_⟩
        rcases List.mem_cons.mp he with z | z
        · rw [z]; exact h1
        · exact s e z
      · cases h
    · -- parts of slices
      unfold ckO at h
      split at h
      · exact o_none
      · exact o_some (S.e _ _ _ x _ _ h)
      · cases h
    · -- what is walked
      have hz := h
      unfold ckI at h
      split at h
      · rw [Bool.and_eq_true] at h
        exact i_seq (S.e _ _ _ x _ _ h.2)
      · split at h
        · simp only [Bool.and_eq_true, decide_eq_true_eq] at h
          obtain ⟨⟨⟨rfl, h2⟩, h3⟩, h4⟩ := h
          exact i_rng1 (gl_of x.hsc h2) (x.bl _ (by decide +kernel)) (a_cons (S.e _ _ _ x _ _ h4) a_nil (star_of h3)) (star_of h3)
        · cases h
      · split at h
        · simp only [Bool.and_eq_true, decide_eq_true_eq] at h
          obtain ⟨⟨⟨⟨⟨rfl, h2⟩, h3⟩, h4⟩, h5⟩, h6⟩ := h
          exact i_rng2 (gl_of x.hsc h2) (x.bl _ (by decide +kernel)) (a_cons (S.e _ _ _ x _ _ h5) (a_cons (S.e _ _ _ x _ _ h6) a_nil (star_of h4)) (star_of h3)) (by rw [star_of h3, star_of h4]; rfl) (star_of h4)
        · cases h
      · split at h
        · simp only [Bool.and_eq_true, decide_eq_true_eq] at h
          obtain ⟨⟨⟨⟨⟨⟨⟨rfl, h2⟩, h3⟩, h4⟩, h7⟩, h5⟩, h6⟩, h8⟩ := h
          have p3 := a_cons (S.e _ _ _ x _ _ h5) (a_cons (S.e _ _ _ x _ _ h6) (a_cons (S.e _ _ _ x _ _ h8) a_nil (star_of h7)) (star_of h4)) (star_of h3)
          exact i_rngd (gl_of x.hsc h2) (x.bl _ (by decide +kernel)) p3 (star_of h3) (back_none fun e he => by
            simp only [List.mem_cons, List.not_mem_nil, or_false] at he
            rcases he with rfl | rfl
            · exact h4
            · exact h7)
        · cases h
      · split at h
        · simp only [Bool.and_eq_true, decide_eq_true_eq] at h
          obtain ⟨⟨⟨rfl, h2⟩, h3⟩, h4⟩ := h
          exact i_enum (gl_of x.hsc h2) (x.bl _ (by decide +kernel)) (a_cons (S.e _ _ _ x _ _ h4) a_nil (star_of h3)) (star_of h3)
        · cases h
      · split at h
        · simp only [Bool.and_eq_true, decide_eq_true_eq] at h
          obtain ⟨⟨⟨⟨⟨rfl, h2⟩, h3⟩, h4⟩, h5⟩, h6⟩ := h
          exact i_zip (gl_of x.hsc h2) (x.bl _ (by decide +kernel)) (a_cons (S.e _ _ _ x _ _ h5) (a_cons (S.e _ _ _ x _ _ h6) a_nil (star_of h4)) (star_of h3)) (star_of h3) (back_none fun e he => by
            rw [List.mem_singleton] at he
            rw [he]
            exact h4)
        · cases h
end Pe
/-! Pe: statements and defs, what is checked is sound. -/
namespace Pe
open PySem PySem.Spec PyProof.Rows L2 RZ

theorem psE {X : Cx} {K : PySem.W.Frag} {B : List Nat} {s : Stmt} {m m' : Env → M Fl} (h : PS X s (tS K B m)) (q : ∀ env, m' env = m env) : PS X s (tS K B m') := by
  rw [show m' = m from funext q]
  exact h
theorem pssE {X : Cx} {K : PySem.W.Frag} {B : List Nat} {s : List Stmt} {m m' : Env → M Fl} (h : PSs X s (tS K B m)) (q : ∀ env, m' env = m env) : PSs X s (tS K B m') := by
  rw [show m' = m from funext q]
  exact h
theorem sws_of {tg e : Expr} {l : Nat} {env : PySem.Env} (h : plainE e = true) : swapsWithSole [tg] e l env = pure false := sw_of h
theorem swst_of {tg a : Expr} {env : PySem.Env} (h : (match a with
      | .Tuple .. => match tg with
        | .Name .. => true
        | _ => false
      | _ => true) = true) : swappedStores [tg] a env = pure none := by
  cases a with
  | Tuple es k p =>
    cases tg with
    | Name x p => rfl
    | _ => cases h
  | _ => cases tg <;> rfl
theorem asg_one {N : List Str} {so : Scope} {tg : Expr} {t : T} {env : PySem.Env} (h : ckT N so tg t = true) : (assignEach [tg] env).map (·.2) = [assign tg env] := by
  cases tg with
  | Starred a p =>
    cases t <;> cases h
  | _ => rfl
theorem asg_sub {b c : Expr} {p : Pos} {env : PySem.Env} (h : plainE c = true) : ∀ v, assign (.Subscript b c p) env v = (do
      let ov ← holding [v] (eval b env)
      let iv ← holding [v, ov] (eval c env)
      standAt p
      holding [v, ov, iv] (setItem ov iv v)
      release [v, ov, iv] []) := by
  intro v
  cases c with
  | Slice a b c => cases h
  | _ => rfl
structure SndS (FT : List Fn) (d : Nat) (N : List Str) (B : List Nat) (fb n : Nat) : Prop where
  s : ∀ sc X, XOk FT d N sc sc X → ∀ s s', ckS FT N n sc s s' = true → PS X s (tS X.K B (evS (call FT d) fb s'))
  ss : ∀ sc X, XOk FT d N sc sc X → ∀ ss ss', ckSs FT N n sc ss ss' = true → PSs X ss (tS X.K B (evSs (call FT d) fb ss'))
theorem passes_of {FT : List Fn} {d : Nat} {N : List Str} {sc so : Scope} {X : Cx} (x : XOk FT d N sc so X) : PassesOwn (model X.prog X.w) X.A X.env X.xe := by
  rw [x.xe]
  exact PassesOwn.never
theorem swB_of {FT : List Fn} {d : Nat} {N : List Str} {sc : Scope} {X : Cx} (x : XOk FT d N sc sc X) {elt : Expr} {gs : List Comprehension} {scope : Scope} {pos py : Pos} {y : Str} {l : Nat} : swapsWith (.ListComp elt gs scope pos) (some (.Name y py)) l X.env = pure (swB sc y py pos scope) := by
  have hk : X.env.scope.kind = .function := by rw [x.hsc]; exact x.kind
  have hb : X.env.blockKind = .function := by
    unfold PySem.Env.blockKind
    rw [hk]
    rfl
  unfold swapsWith swB isLocal
  simp only [hb, Expr.pos]
  have hy : X.env.kindOf y = sc.names.lookup y := by
    show X.env.scope.names.lookup y = _
    rw [x.hsc]
  rw [hy]
  cases sc.names.lookup y with
  | none => rfl
  | some k => cases k <;> rfl
theorem swB_ofD {FT : List Fn} {d : Nat} {N : List Str} {sc : Scope} {X : Cx} (x : XOk FT d N sc sc X) {kx vx : Expr} {gs : List Comprehension} {scope : Scope} {pos py : Pos} {y : Str} {l : Nat} : swapsWith (.DictComp kx vx gs scope pos) (some (.Name y py)) l X.env = pure (swB sc y py pos scope) := by
  have hk : X.env.scope.kind = .function := by rw [x.hsc]; exact x.kind
  have hb : X.env.blockKind = .function := by
    unfold PySem.Env.blockKind
    rw [hk]
    rfl
  unfold swapsWith swB isLocal
  simp only [hb, Expr.pos]
  have hy : X.env.kindOf y = sc.names.lookup y := by
    show X.env.scope.names.lookup y = _
    rw [x.hsc]
  rw [hy]
  cases sc.names.lookup y with
  | none => rfl
  | some k => cases k <;> rfl
theorem par_of {FT : List Fn} {d : Nat} {N : List Str} {sc : Scope} {X : Cx} (x : XOk FT d N sc sc X) {y z : Str} {px pz pt pt2 : Pos} {kt k2 : Nat} {a b : Expr} (h1 : isLocal sc y = true) (h2 : isLocal sc z = true) (hl : (px.line == pz.line) = true) (hne : y ≠ z)
    (hf : ([a, b].all (foldedForSure 8)) = false) (hc : ([a, b].all (constantsAlone 8)) = false) (ha : noStar a = true) (hb : noStar b = true) :
    swappedStores [.Tuple [.Name y px, .Name z pz] kt pt] (.Tuple [a, b] k2 pt2) X.env = pure (some [y, z]) := by
  have hk : X.env.scope.kind = .function := by rw [x.hsc]; exact x.kind
  have hbk : X.env.blockKind = .function := by
    unfold PySem.Env.blockKind
    rw [hk]
    rfl
  have ky : X.env.kindOf y = some .local := by
    show X.env.scope.names.lookup y = _
    rw [x.hsc]
    exact local_of h1
  have kz : X.env.kindOf z = some .local := by
    show X.env.scope.names.lookup z = _
    rw [x.hsc]
    exact local_of h2
  have nst : ∀ e : Expr, noStar e = true → (match e with
      | .Starred .. => true
      | _ => false) = false := fun e he => by
    cases e with
    | Starred u v => cases he
    | _ => rfl
  have hl2 : (pz.line == px.line) = true := by
    rw [eq_of_beq hl]
    exact beq_self_eq_true _
  unfold swappedStores
  simp only [List.length_cons, List.length_nil, hbk, List.any_cons, List.any_nil, nst a ha, nst b hb, List.head?_cons, Option.map_some, Option.getD_some, Expr.pos, List.filterMap_cons, List.filterMap_nil, ky, kz, hl2, beq_self_eq_true, Bool.and_self, if_true, hf, hc]
  have hed : ([y, z] : List Str).eraseDups.length = 2 := by
    simp [List.eraseDups_cons, hne, Ne.symm hne]
  simp [hed]
  intro h
  rcases h with h | h
  · cases a <;> first | exact absurd h Bool.false_ne_true | exact absurd ha Bool.false_ne_true
  · cases b <;> first | exact absurd h Bool.false_ne_true | exact absurd hb Bool.false_ne_true
theorem snd_S {FT : List Fn} {d : Nat} {N : List Str} {B : List Nat} {fb : Nat} (hB : ∀ b ∈ B, b ≤ fb) : ∀ n, SndS FT d N B fb n := by
  intro n
  induction n with
  | zero => exact ⟨fun _ _ _ _ _ h => absurd h Bool.false_ne_true, fun _ _ _ _ _ h => absurd h Bool.false_ne_true⟩
  | succ n S =>
    have SE := snd_E (FT := FT) (d := d) (N := N) hB
    refine ⟨fun sc X x s s' h => ?_, fun sc X x ss ss' h => ?_⟩
    · unfold ckS at h
      have nd : X.N.Nodup := by rw [x.hN]; exact x.nd
      split at h
      · -- name = [..]
        rename_i y py elt tg iter ifs scope pos spos i own tg' it' hc c' elt'
        simp only [Bool.and_eq_true, decide_eq_true_eq] at h
        obtain ⟨⟨h1, h2⟩, h3⟩ := h
        obtain ⟨lo, fo⟩ := x.st y (loc_of h2)
        have h4 := h3
        unfold ckE at h4
        simp only [Bool.and_eq_true] at h4
        obtain ⟨⟨⟨⟨⟨k1, k2⟩, k3⟩, k4⟩, k5⟩, k6⟩ := h4
        obtain ⟨q1, q2, q3, q4, q5⟩ := snd_comp (SE n) x k1 k2 k3 k5 k6
        cases hs : swB sc y py pos scope with
        | true =>
          have hloc : X.env.scope.names.lookup y = some .local := by
            rw [x.hsc]
            unfold swB at hs
            simp only [Bool.and_eq_true] at hs
            exact local_of hs.1.1
          refine psE (s_setC x.calm nd (by rw [x.hN]; exact h1) hloc (by rw [swB_of x, hs]) ((SE n).i _ _ _ x _ _ _ k4) q1 q2 q3 q4 q5 (not_set_iter k4 _)) fun env => ?_
          show M.bnd (evE (call FT d) fb (.comp own tg' it' hc c' elt') env) _ = _
          rw [comp_eq]
          rfl
        | false =>
          exact psE (s_asg ((SE (n + 1)).e _ _ _ x _ _ h3) (g_nm nd (by rw [x.hN]; exact h1) lo fo) ((swB_of (l := spos.line) x).trans (congrArg pure hs)) rfl rfl) fun env => rfl
      · -- name = {..}
        rename_i y py kx vx tg iter ifs scope pos spos i own tg' it' hc c' k' v'
        simp only [Bool.and_eq_true, decide_eq_true_eq] at h
        obtain ⟨⟨h1, h2⟩, h3⟩ := h
        obtain ⟨lo, fo⟩ := x.st y (loc_of h2)
        have h4 := h3
        unfold ckE at h4
        simp only [Bool.and_eq_true] at h4
        obtain ⟨⟨⟨⟨⟨⟨k1, k2⟩, k3⟩, k4⟩, k5⟩, k7⟩, k6⟩ := h4
        obtain ⟨q1, q2, q3, q4, q5⟩ := snd_comp (SE n) x k1 k2 k3 k5 k6
        obtain ⟨_, _, _, _, q6⟩ := snd_comp (SE n) x k1 k2 k3 k7 k6
        cases hs : swB sc y py pos scope with
        | true =>
          have hloc : X.env.scope.names.lookup y = some .local := by
            rw [x.hsc]
            unfold swB at hs
            simp only [Bool.and_eq_true] at hs
            exact local_of hs.1.1
          refine psE (s_setD x.calm nd (by rw [x.hN]; exact h1) hloc (by rw [swB_ofD x, hs]) ((SE n).i _ _ _ x _ _ _ k4) q1 q2 q3 q4 q5 q6 (not_set_iter k4 _)) fun env => ?_
          show M.bnd (evE (call FT d) fb (.dcomp own tg' it' hc c' k' v') env) _ = _
          rw [dcomp_eq]
          rfl
        | false =>
          exact psE (s_asg ((SE (n + 1)).e _ _ _ x _ _ h3) (g_nm nd (by rw [x.hN]; exact h1) lo fo) ((swB_ofD (l := spos.line) x).trans (congrArg pure hs)) rfl rfl) fun env => rfl
      · -- name = [.. for .. for ..]
        rename_i y py elt tg iter ifs tg1 iter1 ifs1 scope pos spos i own tg' it' hc c' own1 tg1' it1' hc1 c1' elt'
        simp only [Bool.and_eq_true, decide_eq_true_eq] at h
        obtain ⟨⟨h1, h2⟩, h3⟩ := h
        obtain ⟨lo, fo⟩ := x.st y (loc_of h2)
        have h4 := h3
        unfold ckE at h4
        simp only [Bool.and_eq_true] at h4
        obtain ⟨⟨⟨⟨⟨⟨⟨⟨⟨⟨⟨k1, k2⟩, k3⟩, k4⟩, k5⟩, k6⟩, j2⟩, j3⟩, j7⟩, j8⟩, j4⟩, j6⟩ := h4
        obtain ⟨q1, q2, q3, q4, q5⟩ := snd_comp (SE n) x k1 k2 k3 k5 k6
        obtain ⟨_, _, l3, l4, _⟩ := snd_comp (SE n) x k1 j2 j3 k5 j6
        cases hs : swB sc y py pos scope with
        | true =>
          have hloc : X.env.scope.names.lookup y = some .local := by
            rw [x.hsc]
            unfold swB at hs
            simp only [Bool.and_eq_true] at hs
            exact local_of hs.1.1
          refine psE (s_setC2 x.calm nd (by rw [x.hN]; exact h1) hloc (by rw [swB_of x, hs]) ((SE n).i _ _ _ x _ _ _ k4) q1 q2 (own_in j8) (all_in j7) q3 q4 (fun s H C cl fp => (SE n).i _ _ _ (x.blk (blkOk_by k1).kind s H C cl fp) _ _ _ j4) l3 l4 q5 (not_set_iter k4 _) (not_set_iter j4)) fun env => ?_
          show M.bnd (evE (call FT d) fb (.comp2 own tg' it' hc c' own1 tg1' it1' hc1 c1' elt') env) _ = _
          rw [comp2_eq]
          rfl
        | false =>
          exact psE (s_asg ((SE (n + 1)).e _ _ _ x _ _ h3) (g_nm nd (by rw [x.hN]; exact h1) lo fo) ((swB_of (l := spos.line) x).trans (congrArg pure hs)) rfl rfl) fun env => rfl
      · -- a, b = c, d
        rename_i y px z p2 kt pt a b k2 pt2 pos i j a' b'
        simp only [Bool.and_eq_true, decide_eq_true_eq, Bool.not_eq_true'] at h
        obtain ⟨⟨⟨⟨⟨⟨⟨⟨⟨⟨⟨⟨h1, h2⟩, h3⟩, h4⟩, h5⟩, h6⟩, h7⟩, h8⟩, h9⟩, h10⟩, h11⟩, h12⟩, h13⟩ := h
        exact psE (s_par x.calm nd (by rw [x.hN]; exact h1) (by rw [x.hN]; exact h2) h3 (by rw [x.hsc]; exact local_of h4) (by rw [x.hsc]; exact local_of h5) (a_cons ((SE n).e _ _ _ x _ _ h12) (a_cons ((SE n).e _ _ _ x _ _ h13) a_nil (star_of h11)) (star_of h10)) (par_of x h4 h5 h6 h7 h8 h9 h10 h11) rfl) fun env => rfl
      · simp only [Bool.and_eq_true] at h
        obtain ⟨⟨⟨⟨h1, h2⟩, h3⟩, h4⟩, h5⟩ := h
        exact psE (s_sub hB ((SE n).e _ _ _ x _ _ h3) ((SE n).e _ _ _ x _ _ h4) ((SE n).e _ _ _ x _ _ h5) (sws_of h1) (asg_sub h2)) fun env => rfl
      · simp only [Bool.and_eq_true] at h
        obtain ⟨⟨⟨h1, h2⟩, h3⟩, h4⟩ := h
        exact psE (s_asg ((SE n).e _ _ _ x _ _ h4) (snd_T x _ _ h3) (sws_of h1) (swst_of h2) (asg_one h3)) fun env => rfl
      · rename_i y p o a pos i o' a'
        simp only [Bool.and_eq_true, decide_eq_true_eq] at h
        obtain ⟨⟨⟨⟨⟨h1, h2⟩, rfl⟩, h4⟩, h5⟩, h6⟩ := h
        obtain ⟨lo, fo⟩ := x.st y (loc_of h2)
        refine psE (s_aug nd (by rw [x.hN]; exact h1) lo fo ?_ ((SE n).e _ _ _ x _ _ h6)) fun env => rfl
        cases o' <;> first | exact .inl rfl | exact .inr rfl | cases h4
      · rw [Bool.and_eq_true] at h
        exact psE (s_ex ((SE n).e _ _ _ x _ _ h.2) (sw_of h.1)) fun env => rfl
      · exact psE (s_ret ((SE n).e _ _ _ x _ _ h)) fun env => rfl
      · exact psE s_retn fun env => rfl
      · simp only [Bool.and_eq_true] at h
        obtain ⟨⟨h1, h2⟩, h3⟩ := h
        exact psE (s_if ((SE n).b _ _ _ x _ _ h1) (S.ss _ _ x _ _ h2) (S.ss _ _ x _ _ h3)) fun env => rfl
      · simp only [Bool.and_eq_true] at h
        obtain ⟨⟨h1, h2⟩, h3⟩ := h
        exact psE (s_for (passes_of x) x.calm ((SE n).i _ _ _ x _ _ _ h2) (snd_T x _ _ h1) (S.ss _ _ x _ _ h3) (not_set_iter h2 _)) fun env => rfl
      · simp only [Bool.and_eq_true] at h
        obtain ⟨h1, h2⟩ := h
        exact psE (s_wh (n := WF) (passes_of x) ((SE n).b _ _ _ x _ _ h1) (S.ss _ _ x _ _ h2)) fun env => rfl
      · exact psE s_break fun env => rfl
      · exact psE s_cont fun env => rfl
      · exact psE s_pass fun env => rfl
      · cases h
    · unfold ckSs at h
      split at h
      · exact pssE s_nil fun env => rfl
      · rw [Bool.and_eq_true] at h
        exact pssE (s_cons (S.s _ _ x _ _ h.1) (S.ss _ _ x _ _ h.2)) fun env => rfl
      · cases h
end Pe
/-! Pe: a checked table keeps its promises. -/
namespace Pe
open PySem PySem.Spec PyProof.Rows L2 RZ

/-- a def of the table, as it stands behind the top -/
structure FnK (K : PySem.W.Frag) (mg : Str → Option Value) (t : Fn) (st : Stmt) (a : Addr) (fd : FuncData) : Prop where
  fn : L2.Fun K t.name t.name st a fd
  mg : mg t.name = some (.ref a)
  bd : Binds K fd (t.N.take t.np) []
theorem nofree_of {l : List (Str × NameKind)} (h : (l.all fun y => match y.2 with
  | .free => false
  | _ => true) = true) : ∀ y ∈ l, y.2 ≠ .free := fun y hy e => by
  have := List.all_eq_true.mp h y hy
  rw [e] at this
  exact absurd this Bool.false_ne_true
theorem env_start {K : PySem.W.Frag} {α : List Addr} {H : Hp} {N : List Str} {np : Nat} {xs : List PV} {vs : List V} (r : PRs K α H xs vs []) (hl : xs.length = np) : EnvR K α H (xs.map some ++ List.replicate (N.length - np) none) (L2.start N vs) where
  len := by
    have := r.length
    simp [L2.start, ← this, hl]
  get := fun i x e => by
    have hv := r.length
    by_cases hi : i < xs.length
    · rw [List.getElem?_append_left (by rw [List.length_map]; exact hi), List.getElem?_map] at e
      cases q : xs[i]? with
      | none => rw [q] at e; cases e
      | some y =>
        rw [q] at e
        cases e
        obtain ⟨v, M, e1, r1, s⟩ := r.get q
        refine ⟨v, ?_, by have := List.eq_nil_of_sublist_nil s; rw [this] at r1; exact r1⟩
        unfold L2.start
        rw [List.getElem?_append_left (by rw [List.length_map, ← hv]; exact hi), List.getElem?_map, e1]
        rfl
    · rw [List.getElem?_append_right (by rw [List.length_map]; omega), List.getElem?_replicate] at e
      split at e <;> cases e
section
variable {P : Program} {w : World} {K : PySem.W.Frag} {mg : Str → Option Value} {base : Heap} {FT : List Fn} {S : List Stmt}
theorem ck_len {FT : List Fn} {t : Fn} {st : Stmt} (h : ckFn FT t st = true) : (t.N.take t.np).length = t.np := by
  unfold ckFn at h
  simp only [Bool.and_eq_true, decide_eq_true_eq] at h
  rw [List.length_take, Nat.min_eq_left h.1.1.1.2]
/-- THE TABLE: each checked def keeps the promise that its reading makes -/
theorem tab_ok2 (hF : ∀ (f : Nat) (t : Fn), FT[f]? = some t → ∃ st a fd, ckFn FT t st = true ∧ FnK K mg t st a fd) (hb : ∀ x ∈ bltAll, mg x = none) :
    ∀ (d : Nat), (∀ (f : Nat) (t : Fn) (st : Stmt) (a : Addr) (fd : FuncData), FT[f]? = some t → ckFn FT t st = true → FnK K mg t st a fd → FnOk P w K mg base CX0 d a fd (t.N.take t.np) (spC K (call FT d f) t.np)) ∧
      (FT.length ≤ KEEP → ∀ (f : Nat) (t : Fn) (st : Stmt) (a : Addr) (fd : FuncData), FT[f]? = some t → ckFn FT t st = true → FnK K mg t st a fd → FnOk P w K mg base CX0 d a fd (t.N.take t.np) (spK K (fun fb xs => call FT d (f + KEEP) (.d (.int (fb : Nat)) :: xs)) t.np)) := by
  intro d
  induction d with
  | zero =>
    refine ⟨?_, ?_⟩
    rotate_left
    · intro hl f t st a fd ht hc F
      refine ⟨fun vs H Q E hsp => ?_, fun A outer s H args us vs Q E hr e0 hbd hv hsp => ?_⟩ <;>
      · obtain ⟨B, fb, α0, H0, α, h, xs, L, z, h', _, _, _, e, _⟩ := hsp
        cases e
    intro f t st a fd ht hc F
    refine ⟨fun vs H Q E hsp => ?_, fun A outer s H args us vs Q E hr e0 hbd hv hsp => ?_⟩ <;>
    · obtain ⟨B, α0, H0, α, h, xs, L, z, h', _, _, e, _⟩ := hsp
      cases e
  | succ d ih =>
    refine ⟨?_, ?_⟩
    rotate_left
    · intro hlk f t st a fd ht hc F
      have hc' := hc
      unfold ckFn at hc'
      simp only [Bool.and_eq_true, decide_eq_true_eq, Bool.not_eq_true'] at hc'
      obtain ⟨⟨⟨⟨⟨⟨⟨k1, k2⟩, k3⟩, k4⟩, k5⟩, k6⟩, k7⟩, k8⟩ := hc'
      have hk : (defScope st).kind = .function := by
        split at k1
        · assumption
        · cases k1
      have SC : FnScope t.N (t.N.take t.np) (defScope st) := ⟨hk, k2, k3, k4, by rw [ck_len hc], fun x hx => loc_of (List.all_eq_true.mp k6 x hx), nofree_of k7⟩
      refine F.fn.ok SC (fun vs H Q E hsp => ?_) fun cdv A outer s H vs Q E hr hsp => ?_
      · obtain ⟨B, fb, α0, H0, α, h, xs, L, z, h', hB, p, q, _⟩ := hsp
        rw [ck_len hc, ← q, p.rel.length]
      · obtain ⟨B, fb, α0, H0, α, h, xs, L, z, h', hB, p, q, e, wn⟩ := hsp
        dsimp only at e
        rw [callk_some hlk ht, if_pos q] at e
        obtain ⟨α1, p1, hix, hm⟩ := p.convs
        have hq : (convs xs h).1.length = t.np := p1.rel.length.trans (p.rel.length.symm.trans q)
        have x : XOk FT d t.N (defScope st) (defScope st) (cxOf CX0 P w K mg base t.N t.name (defScope st) a cdv A outer s H E).nox :=
          { calm := rfl, hN := rfl, nd := k4, hsc := rfl, kind := hk, room := hr, xe := rfl, bl := hb,
            fns := fun f t ht => by
              obtain ⟨st2, a2, fd2, hc2, F2⟩ := hF f t ht
              exact ⟨a2, fd2, F2.mg, F2.fn.kp, F2.bd, ck_len hc2, ih.1 f t st2 a2 fd2 ht hc2 F2⟩,
            fnk := fun hlk f t ht => by
              obtain ⟨st2, a2, fd2, hc2, F2⟩ := hF f t ht
              exact ⟨a2, fd2, F2.mg, F2.fn.kp, F2.bd, ck_len hc2, ih.2 hlk f t st2 a2 fd2 ht hc2 F2⟩,
            st := fun y hy => ⟨hy, .inl rfl⟩ }
        refine ⟨_, (snd_S (FT := FT) (d := d) (N := t.N) hB 60).ss _ _ x _ _ k8, ?_⟩
        split at e
        · rename_i v h2 he
          obtain ⟨rfl, rfl⟩ : v = z ∧ h2 = h' := by cases e; exact ⟨rfl, rfl⟩
          exact ⟨_, α1, _, .rt v, h2, p1.good, env_start p1.rel hq, he, fun α' H' u M p2 => wn _ _ _ _ (p2.base p1.step)⟩
        · rename_i en h2 he
          obtain ⟨rfl, rfl⟩ : PV.d .non = z ∧ h2 = h' := by cases e; exact ⟨rfl, rfl⟩
          refine ⟨_, α1, _, .nx en, h2, p1.good, env_start p1.rel hq, he, fun α' H' σ' s' g er => ?_⟩
          have p3 := (Psts.nil g).base s'
          have p4 : Psts K B α1 H α' H' h2 [.d .non] [.non] [] := ⟨p3.step, p3.good, .cons (L := []) (.d .non) .nil, List.nodup_nil, fun _ z => absurd z List.not_mem_nil, fun _ z => absurd z List.not_mem_nil⟩
          exact wn _ _ _ _ (p4.base p1.step)
        · cases e
    intro f t st a fd ht hc F
    have hc' := hc
    unfold ckFn at hc'
    simp only [Bool.and_eq_true, decide_eq_true_eq, Bool.not_eq_true'] at hc'
    obtain ⟨⟨⟨⟨⟨⟨⟨k1, k2⟩, k3⟩, k4⟩, k5⟩, k6⟩, k7⟩, k8⟩ := hc'
    have hk : (defScope st).kind = .function := by
      split at k1
      · assumption
      · cases k1
    have SC : FnScope t.N (t.N.take t.np) (defScope st) := ⟨hk, k2, k3, k4, by rw [ck_len hc], fun x hx => loc_of (List.all_eq_true.mp k6 x hx), nofree_of k7⟩
    refine F.fn.ok SC (fun vs H Q E hsp => ?_) fun cdv A outer s H vs Q E hr hsp => ?_
    · obtain ⟨B, α0, H0, α, h, xs, L, z, h', p, q, _⟩ := hsp
      rw [ck_len hc, ← q, p.rel.length]
    · obtain ⟨B, α0, H0, α, h, xs, L, z, h', p, q, e, wn⟩ := hsp
      unfold call at e
      rw [ht] at e
      dsimp only at e
      rw [if_pos q] at e
      obtain ⟨α1, p1, hix, hm⟩ := p.convs
      have hq : (convs xs h).1.length = t.np := p1.rel.length.trans (p.rel.length.symm.trans q)
      have sub : ∃ γ, α1 = α ++ γ := by
        refine ⟨α1.drop α.length, ?_⟩
        have : α1.take α.length = α := by
          refine List.ext_getElem? fun n => ?_
          by_cases hn : n < α.length
          · rw [List.getElem?_take_of_lt hn, List.getElem?_eq_getElem hn]
            exact hix n _ (List.getElem?_eq_getElem hn)
          · rw [List.getElem?_take_eq_none (Nat.le_of_not_lt hn), List.getElem?_eq_none (Nat.le_of_not_lt hn)]
        exact (this ▸ (List.take_append_drop α.length α1).symm : α1 = List.take α.length α1 ++ List.drop α.length α1).trans (by rw [this])
      obtain ⟨ex, hex⟩ := convs_pre xs h
      have good : Good K (h.length :: B) α1 (convs xs h).2 H := by
        refine ⟨p1.good.len, p1.good.nd, p1.good.cell, fun b hb => ?_⟩
        rcases List.mem_cons.mp hb with rfl | hb
        · refine ⟨by rw [hex, List.length_append]; omega, fun n c hn e1 => ?_⟩
          rw [hex, List.getElem?_append_left hn] at e1
          cases c with
          | lst ys =>
            have hn2 : n < α.length := by rw [p.good.len]; exact hn
            obtain ⟨us, _, _, r⟩ := p.good.cell n ys α[n] e1 (List.getElem?_eq_getElem hn2)
            have := PRs.lt _ _ _ r
            rw [p.good.len] at this
            exact this
        · exact p1.good.wf b hb
      have hB : ∀ b ∈ h.length :: B, b ≤ h.length := fun b hb => by
        rcases List.mem_cons.mp hb with rfl | hb
        · exact Nat.le_refl _
        · exact (p.good.wf b hb).1
      have x : XOk FT d t.N (defScope st) (defScope st) (cxOf CX0 P w K mg base t.N t.name (defScope st) a cdv A outer s H E).nox :=
        { calm := rfl, hN := rfl, nd := k4, hsc := rfl, kind := hk, room := hr, xe := rfl, bl := hb,
          fns := fun f t ht => by
            obtain ⟨st2, a2, fd2, hc2, F2⟩ := hF f t ht
            exact ⟨a2, fd2, F2.mg, F2.fn.kp, F2.bd, ck_len hc2, ih.1 f t st2 a2 fd2 ht hc2 F2⟩,
          fnk := fun hlk f t ht => by
            obtain ⟨st2, a2, fd2, hc2, F2⟩ := hF f t ht
            exact ⟨a2, fd2, F2.mg, F2.fn.kp, F2.bd, ck_len hc2, ih.2 hlk f t st2 a2 fd2 ht hc2 F2⟩,
          st := fun y hy => ⟨hy, .inl rfl⟩ }
      refine ⟨_, (snd_S (FT := FT) (d := d) (N := t.N) hB 60).ss _ _ x _ _ k8, ?_⟩
      have fin : ∀ (v : PV) (h2 : Hs), leave h.length v h2 = some (z, h') → ∀ α' H' u M, Psts K (h.length :: B) α1 H α' H' h2 [v] [u] M → Q u H' := fun v h2 e2 α' H' u M p2 => by
        have p3 : Psts K (h.length :: B) α0 H0 α' H' h2 [v] [u] M := p2.base p1.step
        obtain ⟨γ, hγ⟩ := sub
        obtain ⟨δ, hδ, _⟩ := p2.step.pre
        obtain ⟨M', p4⟩ := leave_ok p.good.len ⟨γ ++ δ, by rw [hδ, hγ, List.append_assoc]⟩ (by obtain ⟨β, hβ, _⟩ := p.step.pre; exact ⟨β, hβ⟩) (fun b hb => (p.good.wf b hb).1) p3 e2
        exact wn _ _ _ _ p4
      split at e
      · rename_i v h2 he
        exact ⟨_, α1, _, .rt v, h2, good, env_start p1.rel hq, he, fun α' H' u M p2 => fin v h2 e α' H' u M p2⟩
      · rename_i en h2 he
        exact ⟨_, α1, _, .nx en, h2, good, env_start p1.rel hq, he, fun α' H' σ' s' g er => fin _ h2 e α' H' .non [] ((Psts.nil g).base s' |>.to .nil (List.Sublist.refl _) |> fun p => ⟨p.step, p.good, .cons (.d .non) .nil, List.nodup_nil, fun _ z => absurd z List.not_mem_nil, fun _ z => absurd z List.not_mem_nil⟩)⟩
      · cases e
theorem tab_ok (hF : ∀ (f : Nat) (t : Fn), FT[f]? = some t → ∃ st a fd, ckFn FT t st = true ∧ FnK K mg t st a fd) (hb : ∀ x ∈ bltAll, mg x = none) :
    ∀ (d f : Nat) (t : Fn) (st : Stmt) (a : Addr) (fd : FuncData), FT[f]? = some t → ckFn FT t st = true → FnK K mg t st a fd → FnOk P w K mg base CX0 d a fd (t.N.take t.np) (spC K (call FT d f) t.np) := fun d => (tab_ok2 hF hb d).1
end
end Pe
/-! Pe: from the table to the law's row. -/
namespace Pe
open PySem PySem.Spec PyProof.Rows L2 RZ

def ckTab (FT : List Fn) : List Fn → List Stmt → Bool
  | [], [] => true
  | t :: ts, s :: ss => ckFn FT t s && ckTab FT ts ss
  | _, _ => false
/-- what stands behind the top, def by def -/
inductive Tab (K : PySem.W.Frag) (mg : Str → Option Value) : List Fn → List Stmt → Prop
  | nil : Tab K mg [] []
  | cons {t : Fn} {st : Stmt} {ts : List Fn} {ss : List Stmt} {a : Addr} {fd : FuncData} (h : FnK K mg t st a fd) (r : Tab K mg ts ss) : Tab K mg (t :: ts) (st :: ss)
theorem Tab.get {K : PySem.W.Frag} {mg : Str → Option Value} {FT : List Fn} : ∀ {ts : List Fn} {ss : List Stmt}, Tab K mg ts ss → ckTab FT ts ss = true → ∀ (f : Nat) (t : Fn), ts[f]? = some t → ∃ st a fd, ckFn FT t st = true ∧ FnK K mg t st a fd
  | _, _, .nil, _, f, t, e => by cases e
  | _, _, .cons h r, c, f, t, e => by
    unfold ckTab at c
    rw [Bool.and_eq_true] at c
    cases f with
    | zero =>
      cases e
      exact ⟨_, _, _, c.1, h⟩
    | succ f => exact r.get c.2 f t e
theorem fnK_mk {K : PySem.W.Frag} {h : Heap} {mg : Str → Option Value} {t : Fn} {st : Stmt} {f : Addr} {oc kV doc pm cdv ct : Value} {od an : Option Addr} {osl : Array (Option Value)} (X : K.In h) (G : h.Ns mainGlobals mg)
    (b : ∀ (kV doc pm : Value) (an : Option Addr) (cdv ct : Value) (us : List Value), us.length = (t.N.take t.np).length → bindArgs (PySem.W.fnOf t.name t.name (defArgs st) (defBody st) (defScope st) .none kV doc pm an cdv ct) ⟨us, []⟩ = pure ((t.N.take t.np).zip us))
    (a : PySem.W.nsIn K mainGlobals t.name = some (some (.ref f))) (l : K.lookup f = some ⟨oc, od, .func (PySem.W.fnOf t.name t.name (defArgs st) (defBody st) (defScope st) .none kV doc pm an cdv ct), osl⟩) (c : PySem.W.codeIn K cdv t.name = true) (k : PySem.W.keepIn K (.ref f) = true) :
    FnK K mg t st f (PySem.W.fnOf t.name t.name (defArgs st) (defBody st) (defScope st) .none kV doc pm an cdv ct) :=
  ⟨fun_mk l c k, PySem.W.mg_of X G a, (fun_mk l c k).binds b⟩
inductive Unbound (K : PySem.W.Frag) : List Str → Prop
  | nil : Unbound K []
  | cons {x : Str} {r : List Str} (h : PySem.W.nsIn K mainGlobals x = some none) (t : Unbound K r) : Unbound K (x :: r)
theorem bl_all {K : PySem.W.Frag} {h : Heap} {mg : Str → Option Value} (X : K.In h) (G : h.Ns mainGlobals mg) : ∀ {l : List Str}, Unbound K l → ∀ x ∈ l, mg x = none
  | _, .nil, x, hx => absurd hx List.not_mem_nil
  | _, .cons z r, x, hx => by
    rcases List.mem_cons.mp hx with rfl | hx
    · exact PySem.W.mg_none_of X G z
    · exact bl_all X G r x hx
/-- what walk_of asks, from the table -/
theorem tab_walk {P : Program} {w : World} {K : PySem.W.Frag} {mg : Str → Option Value} {fa : Addr} {FT : List Fn} {S : List Stmt} {D i : Nat} {t : Fn} (hmg : mg t.name = some (.ref fa)) (T : Tab K mg FT S) (C : ckTab FT FT S = true) (B : ∀ x ∈ bltAll, mg x = none) (hi : FT[i]? = some t) (hp : t.N.take t.np = [Str.ofString "script"]) (hn : t.np = 1)
    (hb : ∀ (kV doc pm : Value) (an : Option Addr) (cdv ct : Value) (st : Stmt) (v : Value), S[i]? = some st → bindArgs (PySem.W.fnOf t.name t.name (defArgs st) (defBody st) (defScope st) .none kV doc pm an cdv ct) ⟨[v], []⟩ = pure [(Str.ofString "script", v)]) :
    ∃ fd : FuncData, (∀ (s : Shared) (u : Value), BindsTo s fd ⟨[u], []⟩ [(Str.ofString "script", u)]) ∧ ∀ base : Heap, K.In base → base.Ns mainGlobals mg → FnOk P w K mg base CX0 D fa fd [Str.ofString "script"] (spC K (call FT D i) 1) := by
  have key : ∀ {ts : List Fn} {ss : List Stmt}, Tab K mg ts ss → ckTab FT ts ss = true → ∀ (f : Nat), ts[f]? = some t → ∃ st a fd, ss[f]? = some st ∧ ckFn FT t st = true ∧ FnK K mg t st a fd := by
    intro ts ss T
    induction T with
    | nil => intro _ f e; cases e
    | cons h r ih =>
      intro c f e
      unfold ckTab at c
      rw [Bool.and_eq_true] at c
      cases f with
      | zero => cases e; exact ⟨_, _, _, rfl, c.1, h⟩
      | succ f => exact ih c.2 f e
  obtain ⟨st, a, fd, es, hc, F⟩ := key T C i hi
  obtain rfl : fa = a := by
    have := hmg.symm.trans F.mg
    cases this
    rfl
  refine ⟨fd, ?_, fun base _ _ => ?_⟩
  · obtain ⟨oc, od, kV, doc, pm, an, cdv, ct, osl, rfl, lk, hcd⟩ := F.fn.ex
    exact fun s u => .of_eq (hb _ _ _ _ _ _ st u es)
  · have ok := tab_ok (P := P) (w := w) (base := base) (T.get C) B D i t st fa fd hi hc F
    rw [hp, hn] at ok
    exact ok
theorem law_sp {K : PySem.W.Frag} {FT : List Fn} {D i : Nat} (law : ∀ ns : List Int, ns.length ≤ 63 → ∃ h, call FT D i [.fl (ns.map .int)] [] = some (.d (.bl true), h)) (H : Hp) (a : Addr) (ns : List Int) (hl : ns.length ≤ 63) (hO : L2.Only H) (hS : SqL K H a (ns.map V.int)) :
    spC K (call FT D i) 1 [.ref a] H (fun v _ => v = .bl true) fun _ _ _ => False := by
  obtain ⟨h, e⟩ := law ns hl
  have fz : FzL K H a (ns.map V.int) := by
    rcases hS with (z | ⟨o, z⟩) | z
    · rcases hO a with q | ⟨o, xs, q⟩
      · rw [q] at z; cases z
      · rw [q] at z; cases z
    · exact .inl ⟨o, z⟩
    · exact .inr z
  have rs : ∀ ns : List Int, DRs K H (ns.map .int) (ns.map V.int) := fun ns => by
    induction ns with
    | nil => exact .nil
    | cons n ns ih => exact .cons (.int n) ih
  refine ⟨[], [], H, [], [], [.fl (ns.map .int)], [], .d (.bl true), h, ⟨.refl, ⟨rfl, List.nodup_nil, fun n xs a e => (nomatch e), fun b hb => absurd hb List.not_mem_nil⟩, .cons (.fl fz (by rw [List.length_map]; exact Nat.le_trans hl (by decide)) (rs ns)) .nil, List.nodup_nil, fun _ z => absurd z List.not_mem_nil, fun _ z => absurd z List.not_mem_nil⟩, rfl, e, fun α H' v L p => bl_of p⟩
end Pe
/-! Pe: reasoning about the evaluator: weakest preconditions, and the rules that simp takes. -/
namespace Pe.Pw
open PySem

structure Wp {α : Type} (m : M α) (h : Hs) (Q : α → Hs → Prop) : Prop where
  ex : ∃ a h1, m h = some (a, h1) ∧ Q a h1
section
variable {α β : Type} {h : Hs} {cf : Nat → List PV → M PV} {fb : Nat} {env : Env}
theorem wp_eq {m : M α} {a : α} {h1 : Hs} {Q : α → Hs → Prop} (e : m h = some (a, h1)) (q : Q a h1) : Wp m h Q := ⟨a, h1, e, q⟩
theorem wp_some {m : M α} {Q : α → Hs → Prop} (w : Wp m h Q) : ∃ a h1, m h = some (a, h1) ∧ Q a h1 := w.ex
theorem w_iff {m : M α} {a : α} {h1 : Hs} {Q : α → Hs → Prop} (e : m h = some (a, h1)) : Wp m h Q ↔ Q a h1 :=
  ⟨fun q => by obtain ⟨_, _, e2, q⟩ := wp_some q; rw [e] at e2; cases e2; exact q, fun q => wp_eq e q⟩
theorem w_no {m : M α} {Q : α → Hs → Prop} (e : m h = none) : ¬ Wp m h Q := fun w => by
  obtain ⟨_, _, e2, _⟩ := w.ex
  rw [e] at e2
  cases e2
theorem w_same {m m2 : M α} {h2 : Hs} {Q : α → Hs → Prop} (e : m h = m2 h2) : Wp m h Q ↔ Wp m2 h2 Q := by
  constructor
  · rintro ⟨a, h1, e1, q⟩
    exact ⟨a, h1, e ▸ e1, q⟩
  · rintro ⟨a, h1, e1, q⟩
    exact ⟨a, h1, e.trans e1, q⟩
theorem wp_imp {m : M α} {Q R : α → Hs → Prop} (w : Wp m h Q) (i : ∀ a h1, Q a h1 → R a h1) : Wp m h R := by
  obtain ⟨a, h1, e, q⟩ := wp_some w
  exact wp_eq e (i _ _ q)
theorem wp_cond {c : Prop} [Decidable c] {a : α} {h1 : Hs} {R : α → Hs → Prop} {m : M α} (e : m h = if c then some (a, h1) else none) : Wp m h R ↔ c ∧ R a h1 := by
  by_cases hc : c
  · rw [if_pos hc] at e
    exact ⟨fun q => ⟨hc, by
      obtain ⟨b, h2, e2, q⟩ := wp_some q
      rw [e] at e2
      cases e2
      exact q⟩, fun q => wp_eq e q.2⟩
  · rw [if_neg hc] at e
    refine ⟨fun q => ?_, fun q => absurd q.1 hc⟩
    obtain ⟨b, h2, e2, q⟩ := wp_some q
    rw [e] at e2
    cases e2
theorem w_ret {a : α} {Q : α → Hs → Prop} : Wp (M.ret a) h Q ↔ Q a h := w_iff rfl
theorem w_bnd {m : M α} {f : α → M β} {Q : β → Hs → Prop} : Wp (M.bnd m f) h Q ↔ Wp m h fun a h1 => Wp (f a) h1 Q := by
  cases e : m h with
  | none =>
    have e2 : M.bnd m f h = none := by
      unfold M.bnd
      rw [e]
    exact ⟨fun w => absurd w (w_no e2), fun w => absurd w (w_no e)⟩
  | some r =>
    obtain ⟨a, h1⟩ := r
    have e2 : M.bnd m f h = f a h1 := by
      unfold M.bnd
      rw [e]
    exact (w_same e2).trans (w_iff (Q := fun a h1 => Wp (f a) h1 Q) e).symm
theorem w_of {a : α} {Q : α → Hs → Prop} : Wp (M.of (some a)) h Q ↔ Q a h := w_iff rfl
theorem w_ite {b : Bool} {m m2 : M α} {Q : α → Hs → Prop} : Wp (if b = true then m else m2) h Q ↔ (b = true → Wp m h Q) ∧ (b = false → Wp m2 h Q) := by
  cases b <;> simp
def getV : Env → Nat → Option PV
  | [], _ => none
  | x :: _, 0 => x
  | _ :: r, i + 1 => getV r i
theorem getV_eq : ∀ (env : Env) (i : Nat), (match env[i]? with
    | some (some v) => some v
    | _ => none) = getV env i
  | [], i => rfl
  | x :: r, 0 => by cases x <;> rfl
  | x :: r, i + 1 => getV_eq r i
theorem getV_0 {x : Option PV} {r : Env} : getV (x :: r) 0 = x := rfl
theorem getV_s {x : Option PV} {r : Env} {i : Nat} : getV (x :: r) (i + 1) = getV r i := rfl
variable {Q : PV → Hs → Prop}
theorem w_var {i : Nat} : Wp (evE cf fb (.var i) env) h Q ↔ Wp (M.of (getV env i)) h Q := by
  rw [← getV_eq]
  exact w_same rfl
theorem w_cst {c : D} : Wp (evE cf fb (.cst c) env) h Q ↔ Q (.d c) h := w_iff rfl
theorem w_bin {o : BOp} {a b : E} : Wp (evE cf fb (.bin o a b) env) h Q ↔ Wp (evE cf fb a env) h fun x h => Wp (evE cf fb b env) h fun y h => Wp (binV o x y) h Q := by
  show Wp (M.bnd _ _) h Q ↔ _
  simp only [w_bnd]
theorem w_un {o : UOp} {a : E} : Wp (evE cf fb (.un o a) env) h Q ↔ Wp (evE cf fb a env) h fun x h => Wp (unV o x) h Q := w_bnd
theorem w_nt {a : E} : Wp (evE cf fb (.nt a) env) h Q ↔ Wp (evE cf fb a env) h fun x h => Wp (boolV x) h fun b h => Q (.d (.bl (!b))) h := by
  show Wp (M.bnd _ _) h Q ↔ _
  simp only [w_bnd, w_ret]
theorem w_an {a b : E} : Wp (evE cf fb (.an a b) env) h Q ↔ Wp (evE cf fb a env) h fun x h => Wp (boolV x) h fun c h => (c = true → Wp (evE cf fb b env) h Q) ∧ (c = false → Q (.d (.bl false)) h) := by
  show Wp (M.bnd _ _) h Q ↔ _
  simp only [w_bnd, w_ret, w_ite]
theorem w_orr {a b : E} : Wp (evE cf fb (.orr a b) env) h Q ↔ Wp (evE cf fb a env) h fun x h => Wp (boolV x) h fun c h => (c = true → Q (.d (.bl true)) h) ∧ (c = false → Wp (evE cf fb b env) h Q) := by
  show Wp (M.bnd _ _) h Q ↔ _
  simp only [w_bnd, w_ret, w_ite]
theorem w_cmp {o : COp} {a b : E} : Wp (evE cf fb (.cmp o a b) env) h Q ↔ Wp (evE cf fb a env) h fun x h => Wp (evE cf fb b env) h fun y h => Wp (cmpV o x y) h fun c h => Q (.d (.bl c)) h := by
  show Wp (M.bnd _ _) h Q ↔ _
  simp only [w_bnd, w_ret]
theorem w_chn {o p : COp} {a b c : E} : Wp (evE cf fb (.chn o p a b c) env) h Q ↔ Wp (evE cf fb a env) h fun x h => Wp (evE cf fb b env) h fun y h => Wp (cmpV o x y) h fun k h =>
    (k = true → Wp (evE cf fb c env) h fun z h => Wp (cmpV p y z) h fun l h => Q (.d (.bl l)) h) ∧ (k = false → Q (.d (.bl false)) h) := by
  show Wp (M.bnd _ _) h Q ↔ _
  simp only [w_bnd, w_ret, w_ite]
theorem w_ifx {c a b : E} : Wp (evE cf fb (.ifx c a b) env) h Q ↔ Wp (evE cf fb c env) h fun x h => Wp (boolV x) h fun k h => (k = true → Wp (evE cf fb a env) h Q) ∧ (k = false → Wp (evE cf fb b env) h Q) := by
  show Wp (M.bnd _ _) h Q ↔ _
  simp only [w_bnd, w_ret, w_ite]
theorem w_callk {f : Nat} {as : List E} : Wp (evE cf fb (.callk f as) env) h Q ↔ Wp (evEs cf fb as env) h fun xs h => Wp (cf (f + KEEP) (.d (.int (fb : Nat)) :: xs)) h Q := w_bnd
theorem w_call {f : Nat} {as : List E} : Wp (evE cf fb (.call f as) env) h Q ↔ Wp (evEs cf fb as env) h fun xs h => Wp (cf f xs) h Q := w_bnd
theorem w_blt {f : Blt} {as : List E} : Wp (evE cf fb (.blt f as) env) h Q ↔ Wp (evEs cf fb as env) h fun xs h => Wp (bltV f xs) h Q := w_bnd
theorem w_mth {m : Mth} {o : E} {as : List E} : Wp (evE cf fb (.mth m o as) env) h Q ↔ Wp (evE cf fb o env) h fun x h => Wp (evEs cf fb as env) h fun xs h => Wp (mthV fb m x xs) h Q := by
  show Wp (M.bnd _ _) h Q ↔ _
  simp only [w_bnd]
theorem w_tup {as : List E} : Wp (evE cf fb (.tup as) env) h Q ↔ Wp (evEs cf fb as env) h fun xs h => xs.length ≤ sizeLine ∧ Q (mkTup xs) h := by
  show Wp (M.bnd _ _) h Q ↔ _
  rw [w_bnd]
  have : ∀ xs h, Wp (if xs.length ≤ sizeLine then M.ret (mkTup xs) else M.no) h Q ↔ (xs.length ≤ sizeLine ∧ Q (mkTup xs) h) := fun xs h => by
    split
    · rename_i z; exact ⟨fun q => ⟨z, w_ret.mp q⟩, fun q => w_ret.mpr q.2⟩
    · rename_i z; exact ⟨fun q => absurd q (w_no rfl), fun q => absurd q.1 z⟩
  simp only [this]
theorem w_lst {as : List E} : Wp (evE cf fb (.lst as) env) h Q ↔ Wp (evEs cf fb as env) h fun xs h => xs.length ≤ sizeLine ∧ Q (.tl xs) h := by
  show Wp (M.bnd _ _) h Q ↔ _
  rw [w_bnd]
  have : ∀ xs h, Wp (if xs.length ≤ sizeLine then M.ret (.tl xs) else M.no) h Q ↔ (xs.length ≤ sizeLine ∧ Q (.tl xs) h) := fun xs h => by
    split
    · rename_i z; exact ⟨fun q => ⟨z, w_ret.mp q⟩, fun q => w_ret.mpr q.2⟩
    · rename_i z; exact ⟨fun q => absurd q (w_no rfl), fun q => absurd q.1 z⟩
  simp only [this]
theorem w_idx {a i : E} : Wp (evE cf fb (.idx a i) env) h Q ↔ Wp (evE cf fb a env) h fun x h => Wp (evE cf fb i env) h fun y h => Wp (idxV x y) h Q := by
  show Wp (M.bnd _ _) h Q ↔ _
  simp only [w_bnd]
def slcM (f1 f2 : Bool) (x l u : PV) : M PV := match optI f1 l, optI f2 u with
  | some l, some u => sliceV x l u
  | _, _ => M.no
theorem w_slc {f1 f2 : Bool} {a lo hi : E} : Wp (evE cf fb (.slc f1 f2 a lo hi) env) h Q ↔ Wp (evE cf fb a env) h fun x h => Wp (if f1 = true then evE cf fb lo env else M.ret (.d .non)) h fun l h => Wp (if f2 = true then evE cf fb hi env else M.ret (.d .non)) h fun u h => Wp (slcM f1 f2 x l u) h Q := by
  have e : evE cf fb (.slc f1 f2 a lo hi) env = M.bnd (evE cf fb a env) fun x => M.bnd (if f1 = true then evE cf fb lo env else M.ret (.d .non)) fun l => M.bnd (if f2 = true then evE cf fb hi env else M.ret (.d .non)) fun u => slcM f1 f2 x l u := rfl
  rw [e]
  simp only [w_bnd]
theorem slc_tt {x : PV} {l u : Int} : slcM true true x (.d (.int l)) (.d (.int u)) = sliceV x (some l) (some u) := rfl
theorem slc_tf {x u : PV} {l : Int} : slcM true false x (.d (.int l)) u = sliceV x (some l) none := rfl
theorem slc_ft {x l : PV} {u : Int} : slcM false true x l (.d (.int u)) = sliceV x none (some u) := rfl
theorem slc_ff {x l u : PV} : slcM false false x l u = sliceV x none none := rfl
theorem w_nil {Q : List PV → Hs → Prop} : Wp (evEs cf fb [] env) h Q ↔ Q [] h := w_iff rfl
theorem w_cons {e : E} {es : List E} {Q : List PV → Hs → Prop} : Wp (evEs cf fb (e :: es) env) h Q ↔ Wp (evE cf fb e env) h fun x h => Wp (evEs cf fb es env) h fun xs h => Q (x :: xs) h := by
  show Wp (M.bnd _ _) h Q ↔ _
  simp only [w_bnd, w_ret]
/-! statements -/
variable {F : Fl → Hs → Prop}
theorem w_snil : Wp (evSs cf fb [] env) h F ↔ F (.nx env) h := w_iff rfl
/-- what comes behind a statement -/
def Thn (cf : Nat → List PV → M PV) (fb : Nat) (r : List S) (F : Fl → Hs → Prop) (f : Fl) (h : Hs) : Prop := match f with
  | .nx e => Wp (evSs cf fb r e) h F
  | f => F f h
theorem w_scons {s : S} {r : List S} : Wp (evSs cf fb (s :: r) env) h F ↔ Wp (evS cf fb s env) h (Thn cf fb r F) := by
  refine w_bnd.trans (iff_of_eq ?_)
  congr 1
  funext f h
  cases f with
  | nx e => rfl
  | _ => exact propext w_ret
theorem thn_nx {r : List S} {e : Env} : Thn cf fb r F (.nx e) h ↔ Wp (evSs cf fb r e) h F := Iff.rfl
theorem thn_rt {r : List S} {v : PV} : Thn cf fb r F (.rt v) h ↔ F (.rt v) h := Iff.rfl
theorem thn_bk {r : List S} {e : Env} : Thn cf fb r F (.bk e) h ↔ F (.bk e) h := Iff.rfl
theorem thn_ct {r : List S} {e : Env} : Thn cf fb r F (.ct e) h ↔ F (.ct e) h := Iff.rfl
theorem w_asg {t : T} {e : E} : Wp (evS cf fb (.asg t e) env) h F ↔ Wp (evE cf fb e env) h fun v h => Wp (bindT t v env) h fun e h => F (.nx e) h := by
  show Wp (M.bnd _ _) h F ↔ _
  simp only [w_bnd, w_ret]
theorem w_sub {o i e : E} : Wp (evS cf fb (.sub o i e) env) h F ↔ Wp (evE cf fb e env) h fun v h => Wp (evE cf fb o env) h fun x h => Wp (evE cf fb i env) h fun y h => Wp (setV fb x y v) h fun _ h => F (.nx env) h := by
  show Wp (M.bnd _ _) h F ↔ _
  simp only [w_bnd, w_ret]
theorem w_par {i j : Nat} {a b : E} : Wp (evS cf fb (.par i j a b) env) h F ↔ Wp (evE cf fb a env) h fun x h => Wp (evE cf fb b env) h fun y h => Wp (bindT (.nm j) y env) h fun e1 h => Wp (bindT (.nm i) x e1) h fun e2 h => F (.nx e2) h := by
  show Wp (M.bnd _ _) h F ↔ _
  simp only [w_bnd, w_ret]
theorem w_aug {i : Nat} {o : BOp} {e : E} : Wp (evS cf fb (.aug i o e) env) h F ↔ Wp (evE cf fb (.var i) env) h fun x h => Wp (evE cf fb e env) h fun y h => Wp (augV o x y) h fun z h => Wp (bindT (.nm i) z env) h fun e1 h => F (.nx e1) h := by
  show Wp (M.bnd _ _) h F ↔ _
  simp only [w_bnd, w_ret]
theorem w_ex {e : E} : Wp (evS cf fb (.ex e) env) h F ↔ Wp (evE cf fb e env) h fun _ h => F (.nx env) h := by
  show Wp (M.bnd _ _) h F ↔ _
  simp only [w_bnd, w_ret]
theorem w_rt {e : E} : Wp (evS cf fb (.ret e) env) h F ↔ Wp (evE cf fb e env) h fun v h => F (.rt v) h := by
  show Wp (M.bnd _ _) h F ↔ _
  simp only [w_bnd, w_ret]
theorem w_rtn : Wp (evS cf fb .retn env) h F ↔ F (.rt (.d .non)) h := w_iff rfl
theorem w_ife {c : E} {a b : List S} : Wp (evS cf fb (.ife c a b) env) h F ↔ Wp (evE cf fb c env) h fun x h => Wp (boolV x) h fun k h => (k = true → Wp (evSs cf fb a env) h F) ∧ (k = false → Wp (evSs cf fb b env) h F) := by
  show Wp (M.bnd _ _) h F ↔ _
  simp only [w_bnd, w_ite]
theorem w_brk : Wp (evS cf fb .brk env) h F ↔ F (.bk env) h := w_iff rfl
theorem w_cnt : Wp (evS cf fb .cnt env) h F ↔ F (.ct env) h := w_iff rfl
theorem w_pas : Wp (evS cf fb .pas env) h F ↔ F (.nx env) h := w_iff rfl
theorem w_fr {t : T} {it : It} {b : List S} : Wp (evS cf fb (.fr t it b) env) h F ↔ Wp (evIt cf fb it env) h fun iv h => Wp (floop t (evSs cf fb b) iv (iv.fuel h) 0 env) h F := by
  refine w_bnd.trans (iff_of_eq ?_)
  congr 1
  funext iv h
  exact propext (w_same rfl)
/-! targets -/
def setE : Env → Nat → PV → Env
  | [], _, _ => []
  | _ :: r, 0, v => some v :: r
  | x :: r, i + 1, v => x :: setE r i v
theorem setE_eq : ∀ (env : Env) (i : Nat) (v : PV), env.set i (some v) = setE env i v
  | [], _, _ => rfl
  | _ :: _, 0, _ => rfl
  | x :: r, i + 1, v => by show x :: r.set i (some v) = _; rw [setE_eq r i v]; rfl
theorem setE_0 {x : Option PV} {r : Env} {v : PV} : setE (x :: r) 0 v = some v :: r := rfl
theorem setE_s {x : Option PV} {r : Env} {i : Nat} {v : PV} : setE (x :: r) (i + 1) v = x :: setE r i v := rfl
variable {G : Env → Hs → Prop}
theorem w_nm {i : Nat} {v : PV} : Wp (bindT (.nm i) v env) h G ↔ i < env.length ∧ G (setE env i (conv v h).1) (conv v h).2 := by
  rw [← setE_eq]
  exact wp_cond rfl
theorem w_tg {ts : List T} {v : PV} {xs : List PV} (e : tupOf v = some xs) : Wp (bindT (.tup ts) v env) h G ↔ Wp (bindTs ts xs env) h G := by
  have : bindT (.tup ts) v env = bindTs ts xs env := by
    show (match tupOf v with
      | some xs => bindTs ts xs env
      | none => M.no) = _
    rw [e]
  rw [this]
theorem w_tgd {ts : List T} {xs : List D} : Wp (bindT (.tup ts) (.d (.tup xs)) env) h G ↔ Wp (bindTs ts (xs.map .d) env) h G := w_tg rfl
theorem w_tgm {ts : List T} {xs : List PV} : Wp (bindT (.tup ts) (.mt xs) env) h G ↔ Wp (bindTs ts xs env) h G := w_tg rfl
theorem w_tgnil : Wp (bindTs [] [] env) h G ↔ G env h := w_iff rfl
theorem w_tgcons {t : T} {ts : List T} {x : PV} {xs : List PV} : Wp (bindTs (t :: ts) (x :: xs) env) h G ↔ Wp (bindT t x env) h fun env h => Wp (bindTs ts xs env) h G := w_bnd
theorem conv_d {x : D} : conv (.d x) h = (.d x, h) := rfl
theorem conv_fl {x : List D} : conv (.fl x) h = (.fl x, h) := rfl
theorem conv_ref {n : Nat} : conv (.ref n) h = (.ref n, h) := rfl
theorem convs_ds : ∀ {xs : List D} {h : Hs}, convs (xs.map .d) h = (xs.map .d, h)
  | [], _ => rfl
  | x :: xs, h => by
    show ((.d x :: (convs (xs.map .d) h).1 : List PV), (convs (xs.map .d) h).2) = _
    rw [convs_ds]
    rfl
theorem conv_tld {xs : List D} : conv (.tl (xs.map .d)) h = (.ref h.length, h ++ [.lst (xs.map .d)]) := by
  show ((.ref (convs (xs.map .d) h).2.length : PV), (convs (xs.map .d) h).2 ++ [Cell.lst (convs (xs.map .d) h).1]) = _
  rw [convs_ds]
theorem conv_tl0 : conv (.tl []) h = (.ref h.length, h ++ [.lst []]) := rfl
theorem convs_nil : convs [] h = ([], h) := rfl
theorem convs_cons {x : PV} {xs : List PV} : convs (x :: xs) h = ((conv x h).1 :: (convs xs (conv x h).2).1, (convs xs (conv x h).2).2) := rfl
/-! operators -/
theorem w_add {i j : Int} : Wp (binV .add (.d (.int i)) (.d (.int j))) h Q ↔ Q (.d (.int (i + j))) h := w_iff rfl
theorem w_subI {i j : Int} : Wp (binV .sub (.d (.int i)) (.d (.int j))) h Q ↔ Q (.d (.int (i - j))) h := w_iff rfl
theorem w_mul {i j : Int} : Wp (binV .mul (.d (.int i)) (.d (.int j))) h Q ↔ (mulOk i j = true) ∧ Q (.d (.int (i * j))) h := wp_cond rfl
theorem w_fdiv {i j : Int} : Wp (binV .fdiv (.d (.int i)) (.d (.int j))) h Q ↔ (j ≠ 0 ∧ j.natAbs < 1073741824) ∧ Q (.d (.int (i.fdiv j))) h := wp_cond rfl
theorem w_mod {i j : Int} : Wp (binV .mod (.d (.int i)) (.d (.int j))) h Q ↔ (j ≠ 0) ∧ Q (.d (.int (i.fmod j))) h := wp_cond rfl
theorem w_pow {i j : Int} : Wp (binV .pow (.d (.int i)) (.d (.int j))) h Q ↔ (0 ≤ j ∧ j ≤ 1000000 ∧ i.natAbs < 2 ^ 64) ∧ Q (.d (.int (i ^ j.toNat))) h := wp_cond rfl
theorem w_shl {i j : Int} : Wp (binV .shl (.d (.int i)) (.d (.int j))) h Q ↔ (0 ≤ j ∧ j ≤ 1000000 ∧ i.natAbs < 2 ^ 64) ∧ Q (.d (.int (i * 2 ^ j.toNat))) h := wp_cond rfl
theorem w_addS {a b : Str} : Wp (binV .add (.d (.str a)) (.d (.str b))) h Q ↔ (a.length + b.length ≤ sizeLine) ∧ Q (.d (.str (a ++ b))) h := wp_cond rfl
theorem w_addT {a b : List D} : Wp (binV .add (.d (.tup a)) (.d (.tup b))) h Q ↔ (a.length + b.length ≤ sizeLine) ∧ Q (.d (.tup (a ++ b))) h := wp_cond rfl
theorem w_addL {a b : List PV} : Wp (binV .add (.tl a) (.tl b)) h Q ↔ (a.length + b.length ≤ sizeLine) ∧ Q (.tl (a ++ b)) h := wp_cond rfl
theorem mutOf_ref {n : Nat} {a : List PV} (e : h[n]? = some (.lst a)) : mutOf (.ref n) h = some a := by
  show (match h[n]? with
    | some (.lst xs) => some xs
    | none => none) = _
  rw [e]
theorem w_addRL {n : Nat} {a b : List PV} (e : h[n]? = some (.lst a)) : Wp (binV .add (.ref n) (.tl b)) h Q ↔ (a.length + b.length ≤ sizeLine) ∧ Q (.tl (a ++ b)) h := by
  refine wp_cond ?_
  show (match mutOf (.ref n) h, mutOf (.tl b) h with
    | some a, some b => if a.length + b.length ≤ sizeLine then some (PV.tl (a ++ b), h) else none
    | _, _ => none) = _
  rw [mutOf_ref e]
  rfl
theorem w_augI {i j : Int} : Wp (augV .add (.d (.int i)) (.d (.int j))) h Q ↔ Q (.d (.int (i + j))) h := w_iff rfl
theorem w_augS {i j : Int} : Wp (augV .sub (.d (.int i)) (.d (.int j))) h Q ↔ Q (.d (.int (i - j))) h := w_iff rfl
theorem w_neg {i : Int} : Wp (unV .neg (.d (.int i))) h Q ↔ Q (.d (.int (-i))) h := w_iff rfl
variable {R : Bool → Hs → Prop}
theorem w_bool {b : Bool} : Wp (boolV (.d (.bl b))) h R ↔ R b h := w_iff rfl
theorem w_lt {i j : Int} : Wp (cmpV .lt (.d (.int i)) (.d (.int j))) h R ↔ R (decide (i < j)) h := w_iff rfl
theorem w_le {i j : Int} : Wp (cmpV .le (.d (.int i)) (.d (.int j))) h R ↔ R (decide (i ≤ j)) h := w_iff rfl
theorem w_gt {i j : Int} : Wp (cmpV .gt (.d (.int i)) (.d (.int j))) h R ↔ R (decide (j < i)) h := w_iff rfl
theorem w_ge {i j : Int} : Wp (cmpV .ge (.d (.int i)) (.d (.int j))) h R ↔ R (decide (j ≤ i)) h := w_iff rfl
theorem beq_dec {a b : Int} : (a == b) = decide (a = b) := by
  by_cases h : a = b
  · rw [decide_eq_true h, h]; exact beq_self_eq_true b
  · rw [decide_eq_false h]; exact beq_eq_false_iff_ne.mpr h
theorem w_eqI {i j : Int} : Wp (cmpV .eq (.d (.int i)) (.d (.int j))) h R ↔ R (decide (i = j)) h := by
  rw [← beq_dec]; exact w_iff rfl
theorem w_neI {i j : Int} : Wp (cmpV .ne (.d (.int i)) (.d (.int j))) h R ↔ R (decide (i ≠ j)) h := by
  have : decide (i ≠ j) = !(i == j) := by rw [beq_dec]; simp
  rw [this]; exact w_iff rfl
theorem w_eqB {i j : Bool} : Wp (cmpV .eq (.d (.bl i)) (.d (.bl j))) h R ↔ R (i == j) h := w_iff rfl
theorem w_neB {i j : Bool} : Wp (cmpV .ne (.d (.bl i)) (.d (.bl j))) h R ↔ R (!(i == j)) h := w_iff rfl
theorem w_isnN : Wp (cmpV .isN (.d .non) (.d .non)) h R ↔ R true h := w_iff rfl
theorem w_notnN : Wp (cmpV .notN (.d .non) (.d .non)) h R ↔ R false h := w_iff rfl
theorem w_isnI {i : Int} : Wp (cmpV .isN (.d (.int i)) (.d .non)) h R ↔ R false h := w_iff rfl
theorem w_notnI {i : Int} : Wp (cmpV .notN (.d (.int i)) (.d .non)) h R ↔ R true h := w_iff rfl
theorem w_isnT {i : List D} : Wp (cmpV .isN (.d (.tup i)) (.d .non)) h R ↔ R false h := w_iff rfl
theorem w_notnT {i : List D} : Wp (cmpV .notN (.d (.tup i)) (.d .non)) h R ↔ R true h := w_iff rfl
theorem w_isnS {i : Str} : Wp (cmpV .isN (.d (.str i)) (.d .non)) h R ↔ R false h := w_iff rfl
def isNon : D → Bool
  | .non => true
  | _ => false
theorem w_isn {x : D} : Wp (cmpV .isN (.d x) (.d .non)) h R ↔ R (isNon x) h := by cases x <;> exact w_iff rfl
theorem w_notn {x : D} : Wp (cmpV .notN (.d x) (.d .non)) h R ↔ R (!isNon x) h := by cases x <;> exact w_iff rfl
end
end Pe.Pw
/-! Pe: weakest preconditions: builtins, methods, walks, calls. -/
namespace Pe.Pw
open PySem
section
variable {α β : Type} {h : Hs} {cf : Nat → List PV → M PV} {fb : Nat} {env : Env} {Q : PV → Hs → Prop} {R : Bool → Hs → Prop} {F : Fl → Hs → Prop}
/-! builtins -/
theorem w_isiD {ts : List Ty} {x : D} : Wp (bltV (.isi ts) [.d x]) h Q ↔ Q (.d (.bl (ts.any fun t => tyIs h (.d x) t))) h := w_iff rfl
theorem w_isiT {ts : List Ty} {x : List PV} : Wp (bltV (.isi ts) [.tl x]) h Q ↔ Q (.d (.bl (ts.any fun t => tyIs h (.tl x) t))) h := w_iff rfl
theorem w_isiR {ts : List Ty} {x : Nat} : Wp (bltV (.isi ts) [.ref x]) h Q ↔ Q (.d (.bl (ts.any fun t => tyIs h (.ref x) t))) h := w_iff rfl
theorem w_isiF {ts : List Ty} {x : List D} : Wp (bltV (.isi ts) [.fl x]) h Q ↔ Q (.d (.bl (ts.any fun t => tyIs h (.fl x) t))) h := w_iff rfl
theorem w_isiM {ts : List Ty} {x : List PV} : Wp (bltV (.isi ts) [.mt x]) h Q ↔ Q (.d (.bl (ts.any fun t => tyIs h (.mt x) t))) h := w_iff rfl
theorem w_lenT {ds : List D} : Wp (bltV .len [.d (.tup ds)]) h Q ↔ Q (.d (.int ds.length)) h := by
  have e : bltV .len [.d (.tup ds)] h = some (.d (.int (ds.map PV.d).length), h) := rfl
  rw [List.length_map] at e
  exact ⟨fun q => by obtain ⟨_, _, e2, q⟩ := wp_some q; rw [e] at e2; cases e2; exact q, fun q => wp_eq e q⟩
theorem lstOf_ref {n : Nat} {a : List PV} (e : h[n]? = some (.lst a)) : lstOf (.ref n) h = some a := by
  show (match h[n]? with
    | some (.lst xs) => some xs
    | none => none) = _
  rw [e]
theorem seqOf_ref {n : Nat} {a : List PV} (e : h[n]? = some (.lst a)) : seqOf (.ref n) h = some a := lstOf_ref e
theorem w_lenR {n : Nat} {a : List PV} (e : h[n]? = some (.lst a)) : Wp (bltV .len [.ref n]) h Q ↔ Q (.d (.int a.length)) h := by
  refine w_iff ?_
  show (match seqOf (.ref n) h with
    | some xs => some (PV.d (.int xs.length), h)
    | none => none) = _
  rw [seqOf_ref e]
theorem w_lenL {a : List PV} : Wp (bltV .len [.tl a]) h Q ↔ Q (.d (.int a.length)) h := w_iff rfl
theorem allD_ds : ∀ ds : List D, allD (ds.map .d) = some ds := allD_map
theorem mkTup_ds (ds : List D) : mkTup (ds.map .d) = .d (.tup ds) := by
  unfold mkTup
  rw [allD_ds]
theorem mkTup_nil : mkTup [] = .d (.tup []) := rfl
theorem w_tupL {a : List PV} : Wp (bltV .tuple [.tl a]) h Q ↔ Q (mkTup a) h := w_iff rfl
theorem w_tupR {n : Nat} {a : List PV} (e : h[n]? = some (.lst a)) : Wp (bltV .tuple [.ref n]) h Q ↔ Q (mkTup a) h := by
  refine w_iff ?_
  show (match seqOf (.ref n) h with
    | some xs => some (mkTup xs, h)
    | none => none) = _
  rw [seqOf_ref e]
theorem w_listR {n : Nat} {a : List PV} (e : h[n]? = some (.lst a)) : Wp (bltV .list [.ref n]) h Q ↔ Q (.tl a) h := by
  refine w_iff ?_
  show (match seqOf (.ref n) h with
    | some xs => some (PV.tl xs, h)
    | none => none) = _
  rw [seqOf_ref e]
theorem w_listT {ds : List D} : Wp (bltV .list [.d (.tup ds)]) h Q ↔ Q (.tl (ds.map .d)) h := w_iff rfl
theorem boolsOf_map (bs : List Bool) : boolsOf (bs.map fun b => .d (.bl b)) = some bs := by
  induction bs with
  | nil => rfl
  | cons b bs ih =>
    show (match boolsOf (bs.map fun b => PV.d (.bl b)) with
      | some bs => some (b :: bs)
      | none => none) = _
    rw [ih]
theorem intsOf_map (bs : List Int) : intsOf (bs.map fun b => .d (.int b)) = some bs := by
  induction bs with
  | nil => rfl
  | cons b bs ih =>
    show (match intsOf (bs.map fun b => PV.d (.int b)) with
      | some bs => some (b :: bs)
      | none => none) = _
    rw [ih]
theorem w_all {bs : List Bool} : Wp (bltV .all [.tl (bs.map fun b => .d (.bl b))]) h Q ↔ Q (.d (.bl (bs.all id))) h := by
  refine w_iff ?_
  show (boolsOf (bs.map fun b => PV.d (.bl b))).map (fun bs => (PV.d (.bl (bs.all id)), h)) = _
  rw [boolsOf_map]
  rfl
theorem w_any {bs : List Bool} : Wp (bltV .any [.tl (bs.map fun b => .d (.bl b))]) h Q ↔ Q (.d (.bl (bs.any id))) h := by
  refine w_iff ?_
  show (boolsOf (bs.map fun b => PV.d (.bl b))).map (fun bs => (PV.d (.bl (bs.any id)), h)) = _
  rw [boolsOf_map]
  rfl
theorem w_sum {bs : List Int} : Wp (bltV .sum [.tl (bs.map fun b => .d (.int b))]) h Q ↔ Q (.d (.int bs.sum)) h := by
  refine w_iff ?_
  show (intsOf (bs.map fun b => PV.d (.int b))).map (fun bs => (PV.d (.int bs.sum), h)) = _
  rw [intsOf_map]
  rfl
theorem w_intI {i : Int} : Wp (bltV .int [.d (.int i)]) h Q ↔ Q (.d (.int i)) h := w_iff rfl
theorem w_intB {b : Bool} : Wp (bltV .int [.d (.bl b)]) h Q ↔ Q (.d (.int (if b = true then 1 else 0))) h := w_iff rfl
theorem w_abs {i : Int} : Wp (bltV .abs [.d (.int i)]) h Q ↔ Q (.d (.int (if i < 0 then -i else i))) h := w_iff rfl
/-! subscripts -/
theorem atI_map {α β : Type} {f : α → β} {xs : List α} {k : Int} : L2.atI (xs.map f) k = (L2.atI xs k).map f := by
  unfold L2.atI
  rw [List.length_map]
  cases L2.ixN xs.length k with
  | none => rfl
  | some j => exact List.getElem?_map
theorem w_ixT {ds : List D} {k : Int} {x : D} (e : L2.atI ds k = some x) : Wp (idxV (.d (.tup ds)) (.d (.int k))) h Q ↔ Q (.d x) h := by
  refine w_iff ?_
  show (L2.atI (ds.map PV.d) k).map (fun v => (v, h)) = _
  rw [atI_map, e]
  rfl
theorem w_ixR {n : Nat} {xs : List PV} {k : Int} {x : PV} (e : h[n]? = some (.lst xs)) (e2 : L2.atI xs k = some x) : Wp (idxV (.ref n) (.d (.int k))) h Q ↔ Q x h := by
  refine w_iff ?_
  show (match seqOf (.ref n) h with
    | some xs => (L2.atI xs k).map fun v => (v, h)
    | none => none) = _
  rw [seqOf_ref e]
  dsimp only
  rw [e2]
  rfl
theorem atI_nat {α : Type} {xs : List α} {k : Nat} : L2.atI xs (k : Int) = xs[k]? := by
  unfold L2.atI L2.ixN
  rw [if_pos (by omega)]
  split
  · rw [Int.toNat_natCast]; rfl
  · rw [List.getElem?_eq_none (by omega)]; rfl
theorem w_slT {ds : List D} {lo hi : Option Int} : Wp (sliceV (.d (.tup ds)) lo hi) h Q ↔ Q (.d (.tup (cutL ds lo hi))) h := w_iff rfl
theorem w_slR {n : Nat} {xs : List PV} {lo hi : Option Int} (e : h[n]? = some (.lst xs)) : Wp (sliceV (.ref n) lo hi) h Q ↔ Q (.tl (cutL xs lo hi)) h := by
  refine w_iff ?_
  show (match lstOf (.ref n) h with
    | some xs => some (PV.tl (cutL xs lo hi), h)
    | none => none) = _
  rw [lstOf_ref e]
theorem w_slF {xs : List D} {lo hi : Option Int} : Wp (sliceV (.fl xs) lo hi) h Q ↔ Q (.tl (cutL (xs.map .d) lo hi)) h := w_iff rfl
theorem cutL_map {α β : Type} {f : α → β} {xs : List α} {lo hi : Option Int} : cutL (xs.map f) lo hi = (cutL xs lo hi).map f := by
  unfold cutL
  rw [List.length_map, List.map_take, List.map_drop]
theorem cut_hi {α : Type} {xs : List α} {k : Nat} : cutL xs none (some (k : Int)) = xs.take k := by
  unfold cutL
  rw [HT.sIx_nat, HT.sIx_none, List.drop_zero, Nat.sub_zero]
  by_cases hk : k ≤ xs.length
  · rw [Nat.min_eq_left hk]
  · rw [Nat.min_eq_right (by omega), List.take_of_length_le (Nat.le_refl _), List.take_of_length_le (by omega)]
theorem cut_lo {α : Type} {xs : List α} {k : Nat} : cutL xs (some (k : Int)) none = xs.drop k := by
  unfold cutL
  rw [HT.sIx_nat, HT.sIx_none, List.take_of_length_le (by rw [List.length_drop]; exact Nat.le_refl _)]
  by_cases hk : k ≤ xs.length
  · rw [Nat.min_eq_left hk]
  · rw [Nat.min_eq_right (by omega), List.drop_of_length_le (Nat.le_refl _), List.drop_of_length_le (by omega)]
/-! methods -/
theorem w_pop {n : Nat} {xs : List PV} {v : PV} (e : h[n]? = some (.lst (xs ++ [v]))) : Wp (mthV fb .pop (.ref n) []) h Q ↔ Q v (h.set n (.lst xs)) := by
  refine w_iff ?_
  show (match h[n]? with
    | some (.lst xs) => match xs[xs.length - 1]? with
      | some v => some (v, h.set n (.lst xs.dropLast))
      | none => none
    | none => none) = _
  rw [e]
  dsimp only
  have : (xs ++ [v])[(xs ++ [v]).length - 1]? = some v := by
    rw [List.length_append, List.length_singleton, Nat.add_sub_cancel, List.getElem?_append_right (Nat.le_refl _), Nat.sub_self]
    rfl
  rw [this]
  dsimp only
  rw [List.dropLast_concat]
theorem w_app {n : Nat} {xs : List PV} {x : D} (e : h[n]? = some (.lst xs)) (z : xs.length < sizeLine) : Wp (mthV fb .append (.ref n) [.d x]) h Q ↔ Q (.d .non) (h.set n (.lst (xs ++ [.d x]))) := by
  refine w_iff ?_
  show (match h[n]? with
      | some (.lst xs) => if (true && decide (xs.length < sizeLine)) = true then some (PV.d .non, h.set n (.lst (xs ++ [PV.d x]))) else none
      | none => none) = _
  rw [e]
  dsimp only
  rw [decide_eq_true z]
  rfl
theorem w_rev {n : Nat} {xs : List PV} (e : h[n]? = some (.lst xs)) : Wp (mthV fb .reverse (.ref n) []) h Q ↔ Q (.d .non) (h.set n (.lst xs.reverse)) := by
  refine w_iff ?_
  show (match h[n]? with
    | some (.lst xs) => some (PV.d .non, h.set n (.lst xs.reverse))
    | none => none) = _
  rw [e]
theorem w_set {n : Nat} {xs : List PV} {k : Int} {j : Nat} {x : D} {U : Unit → Hs → Prop} (e : h[n]? = some (.lst xs)) (e2 : L2.ixN xs.length k = some j) : Wp (setV fb (.ref n) (.d (.int k)) (.d x)) h U ↔ U () (h.set n (.lst (xs.set j (.d x)))) := by
  refine w_iff ?_
  show (match h[n]? with
      | some (.lst xs) => match L2.ixN xs.length k with
        | some j => if (true : Bool) = true then some ((), h.set n (.lst (xs.set j (.d x)))) else none
        | none => none
      | none => none) = _
  rw [e]
  dsimp only
  rw [e2]
  rfl
/-! calls -/
def Lv (n : Nat) (Q : PV → Hs → Prop) (f : Fl) (h : Hs) : Prop := match f with
  | .rt v => ∃ z h', leave n v h = some (z, h') ∧ Q z h'
  | .nx _ => Q (.d .non) (h.take n)
  | _ => False
theorem lv_d {n : Nat} {x : D} : Lv n Q (.rt (.d x)) h ↔ Q (.d x) (h.take n) :=
  ⟨fun ⟨_, _, e, q⟩ => by cases e; exact q, fun q => ⟨_, _, rfl, q⟩⟩
theorem lv_nx {n : Nat} {e : Env} : Lv n Q (.nx e) h ↔ Q (.d .non) (h.take n) := Iff.rfl
theorem mapRefs_ds {g : Nat → Option (PV × List Nat)} : ∀ ds : List D, mapRefs g (ds.map .d) = some (ds.map .d, [])
  | [] => rfl
  | x :: ds => by
    show (match mapRef g (.d x), mapRefs g (ds.map PV.d) with
      | some (y, l), some (ys, l2) => some (y :: ys, l ++ l2)
      | _, _ => none) = _
    rw [mapRefs_ds ds]
    rfl
theorem lv_tl {n : Nat} {ds : List D} : Lv n Q (.rt (.tl (ds.map .d))) h ↔ Q (.tl (ds.map .d)) (h.take n) := by
  have e : leave n (.tl (ds.map .d)) h = some (.tl (ds.map .d), h.take n) := by
    unfold leave
    have : mapRef (resR n h 4) (.tl (ds.map .d)) = some (.tl (ds.map .d), []) := by
      show (match mapRefs (resR n h 4) (ds.map PV.d) with
        | some (ys, l) => some (PV.tl ys, l)
        | none => none) = _
      rw [mapRefs_ds]
    rw [this]
    rfl
  exact ⟨fun ⟨_, _, e2, q⟩ => by rw [e] at e2; cases e2; exact q, fun q => ⟨_, _, e, q⟩⟩
theorem lv_own {n m : Nat} {ds : List D} (hm : n ≤ m) (e : h[m]? = some (.lst (ds.map .d))) : Lv n Q (.rt (.ref m)) h ↔ Q (.tl (ds.map .d)) (h.take n) := by
  have e : leave n (.ref m) h = some (.tl (ds.map .d), h.take n) := by
    unfold leave
    have : mapRef (resR n h 4) (.ref m) = some (.tl (ds.map .d), [m]) := by
      show (if m < n then some (PV.ref m, []) else match h[m]? with
        | some (.lst xs) => match mapRefs (resR n h 3) xs with
          | some (ys, l) => some (.tl ys, m :: l)
          | none => none
        | none => none) = _
      rw [if_neg (by omega), e]
      dsimp only
      rw [mapRefs_ds]
    rw [this]
    dsimp only
    rw [if_pos (by simp)]
  exact ⟨fun ⟨_, _, e2, q⟩ => by rw [e] at e2; cases e2; exact q, fun q => ⟨_, _, e, q⟩⟩
theorem w_callD {FT : List Fn} {d f : Nat} {t : Fn} {args : List PV} (ht : FT[f]? = some t) (hl : args.length = t.np) : Wp (call FT (d + 1) f args) h Q ↔
    Wp (evSs (call FT d) h.length t.body ((convs args h).1.map some ++ List.replicate (t.N.length - t.np) none)) (convs args h).2 (Lv h.length Q) := by
  have e : call FT (d + 1) f args h = match evSs (call FT d) h.length t.body ((convs args h).1.map some ++ List.replicate (t.N.length - t.np) none) (convs args h).2 with
        | some (.rt v, h2) => leave h.length v h2
        | some (.nx _, h2) => leave h.length (.d .non) h2
        | _ => none := by
    unfold call
    rw [ht]
    dsimp only
    rw [if_pos hl]
    try rfl
  cases q : evSs (call FT d) h.length t.body ((convs args h).1.map some ++ List.replicate (t.N.length - t.np) none) (convs args h).2 with
  | none =>
    rw [q] at e
    exact ⟨fun w => absurd w (w_no e), fun w => absurd w (w_no q)⟩
  | some r =>
    obtain ⟨fl, h2⟩ := r
    rw [q] at e
    rw [w_iff q]
    cases fl with
    | rt v =>
      have e : call FT (d + 1) f args h = leave h.length v h2 := e
      dsimp only [Lv]
      constructor
      · intro w
        obtain ⟨a, h3, e3, z⟩ := w.ex
        exact ⟨a, h3, e.symm.trans e3, z⟩
      · rintro ⟨a, h3, e3, z⟩
        exact ⟨a, h3, e.trans e3, z⟩
    | nx v => exact w_iff e
    | bk v => exact ⟨fun w => absurd w (w_no e), fun w => w.elim⟩
    | ct v => exact ⟨fun w => absurd w (w_no e), fun w => w.elim⟩
/-- a call, shut -/
@[irreducible] def cal (FT : List Fn) (d f : Nat) (args : List PV) : M PV := call FT d f args
theorem cal_eq {FT : List Fn} {d : Nat} : cal FT d = call FT d := by
  funext f args
  unfold cal
  rfl
theorem w_cal {FT : List Fn} {d f : Nat} {t : Fn} {args : List PV} (ht : FT[f]? = some t) (hl : args.length = t.np) : Wp (cal FT (d + 1) f args) h Q ↔
    Wp (evSs (cal FT d) h.length t.body ((convs args h).1.map some ++ List.replicate (t.N.length - t.np) none)) (convs args h).2 (Lv h.length Q) := by
  rw [cal_eq, cal_eq]
  exact w_callD ht hl
end
end Pe.Pw
/-! Pe: weakest preconditions: loops and comprehensions. -/
namespace Pe.Pw
open PySem
section
variable {α β : Type} {h : Hs} {cf : Nat → List PV → M PV} {fb : Nat} {env : Env} {Q : PV → Hs → Prop} {R : Bool → Hs → Prop} {F : Fl → Hs → Prop} {I : ItV → Hs → Prop}
def rng1M (v : PV) : M ItV := match v with
  | .d (.int j) => rngV 0 j
  | _ => M.no
def rng2M (v w : PV) : M ItV := match v, w with
  | .d (.int i), .d (.int j) => rngV i j
  | _, _ => M.no
theorem w_it1 {a : E} : Wp (evIt cf fb (.rng1 a) env) h I ↔ Wp (evE cf fb a env) h fun v h => Wp (rng1M v) h I := by
  refine w_bnd.trans (iff_of_eq ?_)
  congr 1
theorem w_it2 {a b : E} : Wp (evIt cf fb (.rng2 a b) env) h I ↔ Wp (evE cf fb a env) h fun v h => Wp (evE cf fb b env) h fun w h => Wp (rng2M v w) h I := by
  have e : evIt cf fb (.rng2 a b) env = M.bnd (evE cf fb a env) fun v => M.bnd (evE cf fb b env) fun w => rng2M v w := rfl
  rw [e]
  simp only [w_bnd]
theorem w_itS {a : E} : Wp (evIt cf fb (.seq a) env) h I ↔ Wp (evE cf fb a env) h fun v h => Wp (seqM v) h I := w_bnd
theorem w_rgv {a : E} : Wp (evE cf fb (.rgv a) env) h Q ↔ Wp (evE cf fb a env) h fun x h => Wp (rgvV x) h Q := w_bnd
theorem w_rgvI {j : Int} : Wp (rgvV (.d (.int j))) h Q ↔ (-(2 ^ 62) ≤ j ∧ j < 2 ^ 62) ∧ Q (.rg j.toNat) h := wp_cond rfl
theorem w_sset {a : E} : Wp (evE cf fb (.sset a) env) h Q ↔ Wp (evE cf fb a env) h fun x h => Wp (ssetV x) h Q := w_bnd
theorem w_ssetV {x : PV} {ns : List Int} (e : seqOf x h = some ((ns.map D.int).map .d)) (hl : ns.length < 4000) (hs : (setI ns).length < 60) : Wp (ssetV x) h Q ↔ Q (.tl (((setI ns).map D.int).map .d)) h := w_iff (by
  have e1 : intsOf ((ns.map D.int).map .d) = some ns := by rw [List.map_map]; exact intsOf_map ns
  have e2 : ((setI ns).map fun i => PV.d (.int i)) = ((setI ns).map D.int).map .d := by rw [List.map_map]; rfl
  unfold ssetV
  simp only [e, e1, if_pos (And.intro hl hs), e2])
theorem w_ssetL {ns : List Int} (hl : ns.length < 4000) (hs : (setI ns).length < 60) : Wp (ssetV (.tl ((ns.map D.int).map .d))) h Q ↔ Q (.tl (((setI ns).map D.int).map .d)) h := w_ssetV rfl hl hs
theorem w_seqG {n : Nat} : Wp (seqM (.rg n)) h I ↔ I (.rng 0 n) h := w_iff rfl
theorem w_seqM {v : PV} (nr : isRg v = false) : Wp (seqM v) h I ↔ Wp (srcOf v) h fun s h => I (.seq s) h := by
  have : seqM v = M.bnd (srcOf v) fun s => M.ret (.seq s) := by cases v <;> first | rfl | cases nr
  rw [this]
  simp only [w_bnd, w_ret]
theorem w_itE {a : E} : Wp (evIt cf fb (.enum a) env) h I ↔ Wp (evE cf fb a env) h fun v h => Wp (srcOf v) h fun s h => I (.enum s) h := by
  show Wp (M.bnd _ _) h I ↔ _
  simp only [w_bnd, w_ret]
theorem w_rng1 {j : Int} : Wp (rng1M (.d (.int j))) h I ↔ (-(2 ^ 62) ≤ (0 : Int) ∧ (0 : Int) < 2 ^ 62 ∧ -(2 ^ 62) ≤ j ∧ j < 2 ^ 62) ∧ I (.rng 0 (j - 0).toNat) h := wp_cond rfl
theorem w_rng2 {i j : Int} : Wp (rng2M (.d (.int i)) (.d (.int j))) h I ↔ (-(2 ^ 62) ≤ i ∧ i < 2 ^ 62 ∧ -(2 ^ 62) ≤ j ∧ j < 2 ^ 62) ∧ I (.rng i (j - i).toNat) h := wp_cond rfl
theorem w_srcT {ds : List D} {S : Src → Hs → Prop} : Wp (srcOf (.d (.tup ds))) h S ↔ S (.imm (ds.map .d)) h := w_iff rfl
theorem w_srcF {ds : List D} {S : Src → Hs → Prop} : Wp (srcOf (.fl ds)) h S ↔ S (.imm (ds.map .d)) h := w_iff rfl
theorem w_srcR {n : Nat} {S : Src → Hs → Prop} : Wp (srcOf (.ref n)) h S ↔ S (.cell n) h := w_iff rfl
theorem w_seqT {ds : List D} : Wp (seqM (.d (.tup ds))) h I ↔ I (.seq (.imm (ds.map .d))) h := (w_seqM rfl).trans w_srcT
theorem w_seqF {ds : List D} : Wp (seqM (.fl ds)) h I ↔ I (.seq (.imm (ds.map .d))) h := (w_seqM rfl).trans w_srcF
theorem w_seqR {n : Nat} : Wp (seqM (.ref n)) h I ↔ I (.seq (.cell n)) h := (w_seqM rfl).trans w_srcR
theorem w_srcL {ds : List D} {S : Src → Hs → Prop} : Wp (srcOf (.tl (ds.map .d))) h S ↔ S (.imm (ds.map .d)) h := by
  refine w_iff ?_
  have : srcOf0 (.tl (ds.map .d)) = some (.imm (ds.map .d)) := by
    show (match allD (ds.map PV.d) with
      | some _ => some (Src.imm (ds.map .d))
      | none => none) = _
    rw [allD_ds]
  show (match srcOf0 (.tl (ds.map PV.d)) with
    | some s => some (s, h)
    | none => _) = _
  rw [this]
/-- what is walked -/
structure Its (iv : ItV) (h : Hs) (xs : List PV) : Prop where
  at_ : ∀ i, iv.at h i = some xs[i]?
  fuel : iv.fuel h = xs.length
theorem w_seqL {ds : List D} : Wp (seqM (.tl (ds.map .d))) h I ↔ I (.seq (.imm (ds.map .d))) h := (w_seqM rfl).trans w_srcL
theorem its_imm {xs : List PV} : Its (.seq (.imm xs)) h xs := ⟨fun _ => rfl, rfl⟩
theorem its_cell {n : Nat} {xs : List PV} (e : h[n]? = some (.lst xs)) : Its (.seq (.cell n)) h xs := by
  have : (Src.cell n).items h = some xs := by
    show (match h[n]? with
      | some (.lst xs) => some xs
      | none => none) = _
    rw [e]
  refine ⟨fun i => ?_, ?_⟩
  · show ((Src.cell n).items h).map (fun xs => xs[i]?) = _
    rw [this]
    rfl
  · show (((Src.cell n).items h).getD []).length = _
    rw [this]
    rfl
def rngL (lo : Int) (n : Nat) : List PV := (List.range n).map fun i : Nat => PV.d (.int (lo + (i : Int)))
theorem its_rng {lo : Int} {n : Nat} : Its (.rng lo n) h (rngL lo n) := by
  refine ⟨fun i => ?_, ?_⟩
  · show some (if i < n then some (PV.d (.int (lo + i))) else none) = _
    unfold rngL
    rw [List.getElem?_map]
    by_cases hi : i < n
    · rw [if_pos hi, List.getElem?_range hi]
      rfl
    · rw [if_neg hi, List.getElem?_eq_none (by simpa using hi)]
      rfl
  · show n = _
    simp [rngL]
theorem rngL_get {lo : Int} {n i : Nat} {x : PV} (e : (rngL lo n)[i]? = some x) : i < n ∧ x = .d (.int (lo + i)) := by
  unfold rngL at e
  rw [List.getElem?_map] at e
  by_cases hi : i < n
  · rw [List.getElem?_range hi] at e
    cases e
    exact ⟨hi, rfl⟩
  · rw [List.getElem?_eq_none (by simpa using hi)] at e
    cases e
theorem rngL_len {lo : Int} {n : Nat} : (rngL lo n).length = n := by simp [rngL]
/-- one turn of a for: what its end means -/
def FStep (P : Env → Hs → Prop) (F : Fl → Hs → Prop) (f : Fl) (h : Hs) : Prop := match f with
  | .nx e => P e h
  | .ct e => P e h
  | .bk e => F (.nx e) h
  | .rt v => F (.rt v) h
theorem fstep_nx {P : Env → Hs → Prop} {e : Env} : FStep P F (.nx e) h ↔ P e h := Iff.rfl
theorem fstep_ct {P : Env → Hs → Prop} {e : Env} : FStep P F (.ct e) h ↔ P e h := Iff.rfl
theorem fstep_bk {P : Env → Hs → Prop} {e : Env} : FStep P F (.bk e) h ↔ F (.nx e) h := Iff.rfl
theorem fstep_rt {P : Env → Hs → Prop} {v : PV} : FStep P F (.rt v) h ↔ F (.rt v) h := Iff.rfl
/-- THE RULE for a for: P i at the i-th turn -/
theorem w_for {t : T} {b : List S} {iv : ItV} (xs : List PV) (P : Nat → Env → Hs → Prop) (p0 : P 0 env h) (hi : ∀ i env h, i ≤ xs.length → P i env h → Its iv h xs)
    (st : ∀ i env h x, xs[i]? = some x → P i env h → Wp (bindT t x env) h fun e h => Wp (evSs cf fb b e) h (FStep (P (i + 1)) F)) (fin : ∀ env h, P xs.length env h → F (.nx env) h) :
    Wp (floop t (evSs cf fb b) iv (iv.fuel h) 0 env) h F := by
  have key : ∀ k i env h, i + k = xs.length → P i env h → Wp (floop t (evSs cf fb b) iv k i env) h F := by
    intro k
    induction k with
    | zero =>
      intro i env h e p
      have q := (hi i env h (by omega) p).at_ i
      rw [List.getElem?_eq_none (by omega)] at q
      refine wp_eq (a := .nx env) (h1 := h) ?_ (fin env h (by rw [← e]; exact p))
      show (match iv.at h i with
        | some none => some (Fl.nx env, h)
        | _ => none) = _
      rw [q]
    | succ k ih =>
      intro i env h e p
      have hlt : i < xs.length := by omega
      have q := (hi i env h (by omega) p).at_ i
      rw [List.getElem?_eq_getElem hlt] at q
      have s := st i env h xs[i] (List.getElem?_eq_getElem hlt) p
      rw [← w_bnd] at s
      obtain ⟨fl, h1, e1, q1⟩ := wp_some s
      have un : floop t (evSs cf fb b) iv (k + 1) i env h = (match M.bnd (bindT t xs[i] env) (evSs cf fb b) h with
        | some (.nx e, h1) => floop t (evSs cf fb b) iv k (i + 1) e h1
        | some (.ct e, h1) => floop t (evSs cf fb b) iv k (i + 1) e h1
        | some (.bk e, h1) => some (.nx e, h1)
        | some (.rt v, h1) => some (.rt v, h1)
        | none => none) := by
        show (match iv.at h i with
          | some none => some (Fl.nx env, h)
          | some (some x) => match M.bnd (bindT t x env) (evSs cf fb b) h with
            | some (.nx e, h1) => floop t (evSs cf fb b) iv k (i + 1) e h1
            | some (.ct e, h1) => floop t (evSs cf fb b) iv k (i + 1) e h1
            | some (.bk e, h1) => some (.nx e, h1)
            | some (.rt v, h1) => some (.rt v, h1)
            | none => none
          | none => none) = _
        rw [q]
      rw [e1] at un
      cases fl with
      | nx e2 =>
        obtain ⟨a, h2, e3, q3⟩ := wp_some (ih (i + 1) e2 h1 (by omega) q1)
        exact wp_eq (un.trans e3) q3
      | ct e2 =>
        obtain ⟨a, h2, e3, q3⟩ := wp_some (ih (i + 1) e2 h1 (by omega) q1)
        exact wp_eq (un.trans e3) q3
      | bk e2 => exact wp_eq un q1
      | rt v => exact wp_eq un q1
  rw [(hi 0 env h (Nat.zero_le _) p0).fuel]
  exact key xs.length 0 env h (by omega) p0
/-- one turn of a comprehension -/
def cbody (cf : Nat → List PV → M PV) (fb : Nat) (own : List Nat) (tg : T) (hc : Bool) (c elt : E) (env : Env) (x : PV) : M (Option PV) :=
  M.bnd (bindT tg x (wipeE env own)) fun env1 => M.bnd (if hc then M.bnd (evE cf fb c env1) boolV else M.ret true) fun k => if k then M.bnd (evE cf fb elt env1) fun y => M.ret (some y) else M.ret none
theorem w_comp {own : List Nat} {tg : T} {it : It} {hc : Bool} {c elt : E} : Wp (evE cf fb (.comp own tg it hc c elt) env) h Q ↔ Wp (evIt cf fb it env) h fun iv h => Wp (cloop (cbody cf fb own tg hc c elt env) iv (iv.fuel h) 0 []) h fun ys h => Q (.tl ys) h := by
  refine w_bnd.trans (iff_of_eq ?_)
  congr 1
  funext iv h
  apply propext
  have e : (fun h => match cloop (cbody cf fb own tg hc c elt env) iv (iv.fuel h) 0 [] h with
      | some (ys, h1) => some (PV.tl ys, h1)
      | none => none : M PV) = fun h => (cloop (cbody cf fb own tg hc c elt env) iv (iv.fuel h) 0 [] h).map fun r => (PV.tl r.1, r.2) := by
    funext h
    cases cloop (cbody cf fb own tg hc c elt env) iv (iv.fuel h) 0 [] h <;> rfl
  show Wp (fun h => match cloop (cbody cf fb own tg hc c elt env) iv (iv.fuel h) 0 [] h with
      | some (ys, h1) => some (PV.tl ys, h1)
      | none => none : M PV) h Q ↔ _
  rw [e]
  cases q : cloop (cbody cf fb own tg hc c elt env) iv (iv.fuel h) 0 [] h with
  | none =>
    refine ⟨fun w => absurd w (w_no ?_), fun w => absurd w (w_no q)⟩
    rw [q]
    rfl
  | some r =>
    obtain ⟨ys, h1⟩ := r
    rw [w_iff q]
    refine w_iff ?_
    rw [q]
    rfl
def CStep (P : List PV → Hs → Prop) (acc : List PV) (o : Option PV) (h : Hs) : Prop := match o with
  | some y => P (acc ++ [y]) h ∧ acc.length < sizeLine
  | none => P acc h
/-- THE RULE for a comprehension -/
theorem w_cl {f : PV → M (Option PV)} {iv : ItV} {C : List PV → Hs → Prop} (xs : List PV) (P : Nat → List PV → Hs → Prop) (p0 : P 0 [] h) (hi : ∀ i acc h, i ≤ xs.length → P i acc h → Its iv h xs)
    (st : ∀ i acc h x, xs[i]? = some x → P i acc h → Wp (f x) h (CStep (P (i + 1)) acc)) (fin : ∀ acc h, P xs.length acc h → C acc h) : Wp (cloop f iv (iv.fuel h) 0 []) h C := by
  have key : ∀ k i acc h, i + k = xs.length → P i acc h → Wp (cloop f iv k i acc) h C := by
    intro k
    induction k with
    | zero =>
      intro i acc h e p
      have q := (hi i acc h (by omega) p).at_ i
      rw [List.getElem?_eq_none (by omega)] at q
      refine wp_eq (a := acc) (h1 := h) ?_ (fin acc h (by rw [← e]; exact p))
      show (match iv.at h i with
        | some none => some (acc, h)
        | _ => none) = _
      rw [q]
    | succ k ih =>
      intro i acc h e p
      have hlt : i < xs.length := by omega
      have q := (hi i acc h (by omega) p).at_ i
      rw [List.getElem?_eq_getElem hlt] at q
      obtain ⟨o, h1, e1, q1⟩ := wp_some (st i acc h xs[i] (List.getElem?_eq_getElem hlt) p)
      have un : cloop f iv (k + 1) i acc h = (match f xs[i] h with
        | some (some y, h1) => if acc.length < sizeLine then cloop f iv k (i + 1) (acc ++ [y]) h1 else none
        | some (none, h1) => cloop f iv k (i + 1) acc h1
        | none => none) := by
        show (match iv.at h i with
          | some none => some (acc, h)
          | some (some x) => match f x h with
            | some (some y, h1) => if acc.length < sizeLine then cloop f iv k (i + 1) (acc ++ [y]) h1 else none
            | some (none, h1) => cloop f iv k (i + 1) acc h1
            | none => none
          | none => none) = _
        rw [q]
      rw [e1] at un
      cases o with
      | none =>
        obtain ⟨a, h2, e3, q3⟩ := wp_some (ih (i + 1) acc h1 (by omega) q1)
        exact wp_eq (un.trans e3) q3
      | some y =>
        dsimp only at un
        rw [if_pos q1.2] at un
        obtain ⟨a, h2, e3, q3⟩ := wp_some (ih (i + 1) _ h1 (by omega) q1.1)
        exact wp_eq (un.trans e3) q3
  rw [(hi 0 [] h (Nat.zero_le _) p0).fuel]
  exact key xs.length 0 [] h (by omega) p0
/-- a comprehension that changes nothing and has no condition -/
theorem w_clmap {f : PV → M (Option PV)} {iv : ItV} {C : List PV → Hs → Prop} (xs : List PV) (g : PV → PV) (hi : Its iv h xs) (z : xs.length ≤ sizeLine)
    (st : ∀ x ∈ xs, Wp (f x) h fun o h1 => o = some (g x) ∧ h1 = h) (fin : C (xs.map g) h) : Wp (cloop f iv (iv.fuel h) 0 []) h C := by
  refine w_cl xs (fun i acc h1 => h1 = h ∧ acc = (xs.take i).map g) ⟨rfl, rfl⟩ (fun i acc h1 _ p => by rw [p.1]; exact hi) (fun i acc h1 x e p => ?_) fun acc h1 p => ?_
  · obtain ⟨rfl, rfl⟩ := p
    refine wp_imp (st x (List.mem_of_getElem? e)) fun o h2 q => ?_
    obtain ⟨rfl, rfl⟩ := q
    have hlt := (List.getElem?_eq_some_iff.mp e).1
    refine ⟨⟨rfl, ?_⟩, ?_⟩
    · rw [List.take_add_one, e, List.map_append]
      rfl
    · rw [List.length_map, List.length_take]
      omega
  · obtain ⟨rfl, rfl⟩ := p
    rw [List.take_length]
    exact fin
theorem w_cb {own : List Nat} {tg : T} {c elt : E} {x : PV} {O : Option PV → Hs → Prop} : Wp (cbody cf fb own tg false c elt env x) h O ↔ Wp (bindT tg x (wipeE env own)) h fun e h => Wp (evE cf fb elt e) h fun y h => O (some y) h := by
  unfold cbody
  simp only [w_bnd, Bool.false_eq_true, if_false, w_ret, w_ite, true_implies, if_true]
  simp only [Bool.true_eq_false, false_implies, and_true]
theorem w_cbc {own : List Nat} {tg : T} {c elt : E} {x : PV} {O : Option PV → Hs → Prop} : Wp (cbody cf fb own tg true c elt env x) h O ↔ Wp (bindT tg x (wipeE env own)) h fun e h => Wp (evE cf fb c e) h fun v h => Wp (boolV v) h fun k h => (k = true → Wp (evE cf fb elt e) h fun y h => O (some y) h) ∧ (k = false → O none h) := by
  unfold cbody
  simp only [w_bnd, if_true, w_ret, w_ite]
/-! dict comprehensions, ranges downwards -/
def dbody (cf : Nat → List PV → M PV) (fb : Nat) (own : List Nat) (tg : T) (hc : Bool) (c k v : E) (env : Env) (x : PV) : M (Option (Sum Int Str × D)) :=
  M.bnd (bindT tg x (wipeE env own)) fun env1 => M.bnd (if hc then M.bnd (evE cf fb c env1) boolV else M.ret true) fun b => if b then M.bnd (evE cf fb k env1) fun y => M.bnd (evE cf fb v env1) fun z => pairM y z else M.ret none
theorem w_dcomp {own : List Nat} {tg : T} {it : It} {hc : Bool} {c k v : E} : Wp (evE cf fb (.dcomp own tg it hc c k v) env) h Q ↔ Wp (evIt cf fb it env) h fun iv h => Wp (dloop (dbody cf fb own tg hc c k v env) iv (iv.fuel h) 0 []) h fun ys h => Q (.fd ys) h := by
  refine w_bnd.trans (iff_of_eq ?_)
  congr 1
  funext iv h
  apply propext
  have e : (fun h => match dloop (dbody cf fb own tg hc c k v env) iv (iv.fuel h) 0 [] h with
      | some (ys, h1) => some (PV.fd ys, h1)
      | none => none : M PV) = fun h => (dloop (dbody cf fb own tg hc c k v env) iv (iv.fuel h) 0 [] h).map fun r => (PV.fd r.1, r.2) := by
    funext h
    cases dloop (dbody cf fb own tg hc c k v env) iv (iv.fuel h) 0 [] h <;> rfl
  show Wp (fun h => match dloop (dbody cf fb own tg hc c k v env) iv (iv.fuel h) 0 [] h with
      | some (ys, h1) => some (PV.fd ys, h1)
      | none => none : M PV) h Q ↔ _
  rw [e]
  cases q : dloop (dbody cf fb own tg hc c k v env) iv (iv.fuel h) 0 [] h with
  | none =>
    refine ⟨fun w => absurd w (w_no ?_), fun w => absurd w (w_no q)⟩
    rw [q]
    rfl
  | some r =>
    obtain ⟨ys, h1⟩ := r
    rw [w_iff q]
    refine w_iff ?_
    rw [q]
    rfl
theorem w_db {own : List Nat} {tg : T} {c k v : E} {x : PV} {O : Option (Sum Int Str × D) → Hs → Prop} : Wp (dbody cf fb own tg false c k v env x) h O ↔ Wp (bindT tg x (wipeE env own)) h fun e h => Wp (evE cf fb k e) h fun y h => Wp (evE cf fb v e) h fun z h => Wp (pairM y z) h O := by
  unfold dbody
  simp only [w_bnd, Bool.false_eq_true, if_false, w_ret, w_ite, true_implies, if_true]
  simp only [Bool.true_eq_false, false_implies, and_true]
theorem w_pairI {i : Int} {v : D} {O : Option (Sum Int Str × D) → Hs → Prop} : Wp (pairM (.d (.int i)) (.d v)) h O ↔ O (some (.inl i, v)) h := w_iff rfl
theorem w_pairS {i : Str} {v : D} {O : Option (Sum Int Str × D) → Hs → Prop} : Wp (pairM (.d (.str i)) (.d v)) h O ↔ O (some (.inr i, v)) h := w_iff rfl
theorem putD_len {es : List (Sum Int Str × D)} {k : Sum Int Str} {v : D} : (putD es k v).length ≤ es.length + 1 := by
  unfold putD
  split
  · rw [List.length_map]; omega
  · rw [List.length_append]; exact Nat.le_refl _
theorem w_dclx {α : Type} {f : PV → M (Option (Sum Int Str × D))} {iv : ItV} {C : List (Sum Int Str × D) → Hs → Prop} (xs : List α) (tod : α → PV) (g : α → Sum Int Str × D) (hi : Its iv h (xs.map tod)) (z : xs.length ≤ sizeLine)
    (st : ∀ x ∈ xs, Wp (f (tod x)) h fun o h1 => o = some (g x) ∧ h1 = h) (fin : C (xs.foldl (fun es x => putD es (g x).1 (g x).2) []) h) : Wp (dloop f iv (iv.fuel h) 0 []) h C := by
  have key : ∀ k i acc, i + k = xs.length → acc.length ≤ i → acc = (xs.take i).foldl (fun es x => putD es (g x).1 (g x).2) [] → Wp (dloop f iv k i acc) h C := by
    intro k
    induction k with
    | zero =>
      intro i acc e l ea
      have q := hi.at_ i
      rw [List.getElem?_eq_none (by rw [List.length_map]; omega)] at q
      refine wp_eq (a := acc) (h1 := h) ?_ ?_
      · show (match iv.at h i with
          | some none => some (acc, h)
          | _ => none) = _
        rw [q]
      · rw [ea, List.take_of_length_le (by omega)]
        exact fin
    | succ k ih =>
      intro i acc e l ea
      have hlt : i < xs.length := by omega
      have q := hi.at_ i
      rw [List.getElem?_map, List.getElem?_eq_getElem hlt] at q
      obtain ⟨o, h1, e1, rfl, rfl⟩ := wp_some (st xs[i] (List.getElem_mem hlt))
      have un : dloop f iv (k + 1) i acc h1 = dloop f iv k (i + 1) (putD acc (g xs[i]).1 (g xs[i]).2) h1 := by
        show (match iv.at h1 i with
          | some none => some (acc, h1)
          | some (some x) => match f x h1 with
            | some (some y, h1) => if acc.length < sizeLine then dloop f iv k (i + 1) (putD acc y.1 y.2) h1 else none
            | some (none, h1) => dloop f iv k (i + 1) acc h1
            | none => none
          | none => none) = _
        rw [q]
        dsimp only [Option.map_some]
        rw [e1]
        dsimp only
        rw [if_pos (by omega)]
      refine (w_same un).mpr (ih (i + 1) _ (by omega) (by have := putD_len (es := acc) (k := (g xs[i]).1) (v := (g xs[i]).2); omega) ?_)
      rw [List.take_add_one, List.getElem?_eq_getElem hlt, Option.toList_some, List.foldl_append, ← ea]
      rfl
  rw [hi.fuel, List.length_map]
  exact key xs.length 0 [] (by omega) (Nat.le_refl _) rfl
theorem w_innF {es : List (Sum Int Str × D)} {i : Int} : Wp (cmpV .inn (.d (.int i)) (.fd es)) h R ↔ R (hasK es (.inl i)) h := w_iff rfl
theorem w_ninF {es : List (Sum Int Str × D)} {i : Int} : Wp (cmpV .nin (.d (.int i)) (.fd es)) h R ↔ R (!hasK es (.inl i)) h := w_iff rfl
theorem conv_fd {es : List (Sum Int Str × D)} : conv (.fd es) h = (.fd es, h) := rfl
theorem w_listF {es : List (Sum Int Str × D)} : Wp (bltV .list [.fd es]) h Q ↔ es.length ≤ sizeLine ∧ Q (.tl (es.map fun p => .d (dKey p.1))) h := wp_cond rfl
/-! how many different whole numbers; two generators -/
def rngdM (v w : PV) : M ItV := match v, w with
  | .d (.int i), .d (.int j) => rngdV i j
  | _, _ => M.no
theorem w_itd {a b : E} : Wp (evIt cf fb (.rngd a b) env) h I ↔ Wp (evE cf fb a env) h fun v h => Wp (evE cf fb b env) h fun w h => Wp (rngdM v w) h I := by
  have e : evIt cf fb (.rngd a b) env = M.bnd (evE cf fb a env) fun v => M.bnd (evE cf fb b env) fun w => rngdM v w := rfl
  rw [e]
  simp only [w_bnd]
theorem w_rngd {i j : Int} : Wp (rngdM (.d (.int i)) (.d (.int j))) h I ↔ (-(2 ^ 62) ≤ i ∧ i < 2 ^ 62 ∧ -(2 ^ 62) ≤ j ∧ j < 2 ^ 62) ∧ I (.rngd i (i - j).toNat) h := wp_cond rfl
end
end Pe.Pw
/-! Pe: the helpers that each law has: drawing, picking, comparing. -/
namespace Pe.Pw
open PySem
theorem wipe_nil {env : Env} : wipeE env [] = env := rfl
theorem wipe_cons {env : Env} {v : Nat} {vs : List Nat} : wipeE env (v :: vs) = (wipeE env vs).set v none := rfl
def Mid (P : Env → Hs → Prop) (F : Fl → Hs → Prop) (f : Fl) (h : Hs) : Prop := match f with
  | .nx e => P e h
  | f => F f h
theorem mid_nx {P : Env → Hs → Prop} {F : Fl → Hs → Prop} {h : Hs} {e : Env} : Mid P F (.nx e) h ↔ P e h := Iff.rfl
theorem mid_rt {P : Env → Hs → Prop} {F : Fl → Hs → Prop} {h : Hs} {v : PV} : Mid P F (.rt v) h ↔ F (.rt v) h := Iff.rfl
theorem mid_bk {P : Env → Hs → Prop} {F : Fl → Hs → Prop} {h : Hs} {v : Env} : Mid P F (.bk v) h ↔ F (.bk v) h := Iff.rfl
theorem mid_ct {P : Env → Hs → Prop} {F : Fl → Hs → Prop} {h : Hs} {v : Env} : Mid P F (.ct v) h ↔ F (.ct v) h := Iff.rfl
def ws := And.intro @w_ret <| And.intro @w_bnd <| And.intro @w_of <| And.intro @getV_0 <| And.intro @getV_s <| And.intro @w_var <| And.intro @w_cst <| And.intro @w_bin <| And.intro @w_un <| And.intro @w_nt <| And.intro @w_an <| And.intro @w_orr <| And.intro @w_cmp <| And.intro @w_chn <| And.intro @w_ifx <| And.intro @w_call <| And.intro @w_blt <| And.intro @w_mth <| And.intro @w_tup <| And.intro @w_lst <| And.intro @w_idx <| And.intro @w_slc <| And.intro @slc_tt <| And.intro @slc_tf <| And.intro @slc_ft <| And.intro @slc_ff <| And.intro @w_nil <| And.intro @w_cons <| And.intro @w_snil <| And.intro @w_scons <| And.intro @thn_nx <| And.intro @thn_rt <| And.intro @thn_bk <| And.intro @thn_ct <| And.intro @w_asg <| And.intro @w_sub <| And.intro @w_par <| And.intro @w_aug <| And.intro @w_ex <| And.intro @w_rt <| And.intro @w_rtn <| And.intro @w_ife <| And.intro @w_brk <| And.intro @w_cnt <| And.intro @w_pas <| And.intro @w_fr <| And.intro @setE_0 <| And.intro @setE_s <| And.intro @w_nm <| And.intro @w_tgd <| And.intro @w_tgm <| And.intro @w_tgnil <| And.intro @w_tgcons <| And.intro @conv_d <| And.intro @conv_fl <| And.intro @conv_ref <| And.intro @conv_tl0 <| And.intro @convs_nil <| And.intro @convs_cons <| And.intro @w_add <| And.intro @w_subI <| And.intro @w_mul <| And.intro @w_fdiv <| And.intro @w_mod <| And.intro @w_pow <| And.intro @w_shl <| And.intro @w_addS <| And.intro @w_addT <| And.intro @w_addL <| And.intro @w_augI <| And.intro @w_augS <| And.intro @w_neg <| And.intro @w_bool <| And.intro @w_lt <| And.intro @w_le <| And.intro @w_gt <| And.intro @w_ge <| And.intro @w_eqI <| And.intro @w_neI <| And.intro @w_eqB <| And.intro @w_neB <| And.intro @w_isn <| And.intro @w_notn <| And.intro @w_isnN <| And.intro @w_notnN <| And.intro @w_isnI <| And.intro @w_notnI <| And.intro @w_isnT <| And.intro @w_notnT <| And.intro @w_isnS <| And.intro @w_isiD <| And.intro @w_isiT <| And.intro @w_isiR <| And.intro @w_isiF <| And.intro @w_isiM <| And.intro @w_seqT <| And.intro @w_seqF <| And.intro @w_seqR <| And.intro @w_seqL <| And.intro @w_seqG <| And.intro @w_dcomp <| And.intro @w_db <| And.intro @w_pairI <| And.intro @w_pairS <| And.intro @w_innF <| And.intro @w_ninF <| And.intro @conv_fd <| And.intro @w_itd <| And.intro @w_rngd <| And.intro @w_rgv <| And.intro @w_rgvI <| And.intro @w_lenT <| And.intro @w_lenL <| And.intro @mkTup_nil <| And.intro @w_tupL <| And.intro @w_listT <| And.intro @w_all <| And.intro @w_any <| And.intro @w_sum <| And.intro @w_intI <| And.intro @w_intB <| And.intro @w_abs <| And.intro @w_slT <| And.intro @w_slF <| And.intro @lv_d <| And.intro @lv_nx <| And.intro @w_it1 <| And.intro @w_it2 <| And.intro @w_itS <| And.intro @w_itE <| And.intro @w_rng1 <| And.intro @w_rng2 <| And.intro @w_srcT <| And.intro @w_srcF <| And.intro @w_srcR <| And.intro @w_srcL <| And.intro @fstep_nx <| And.intro @fstep_ct <| And.intro @fstep_bk <| And.intro @fstep_rt <| And.intro @mid_nx <| And.intro @mid_rt <| And.intro @mid_bk <| And.intro @mid_ct <| And.intro @w_comp <| And.intro @w_cb <| And.intro @w_cbc <| And.intro @wipe_nil <| @wipe_cons
/-- the cell n holds whole numbers -/
def Dr (n : Nat) (h : Hs) : Prop := ∃ ds : List Int, h[n]? = some (.lst (ds.map fun i => .d (.int i)))
/-- nothing was changed but that cell -/
def Dn (n : Nat) (h h' : Hs) : Prop := ∃ ds : List Int, h' = h.set n (.lst (ds.map fun i => .d (.int i)))

def takeB : List S := [.ife (.cmp .eq (.blt .len [(.var 0)]) (.cst (.int 0))) [.ret (.cst (.int 0))] [], .ret (.bin .mod (.blt .int [(.mth .pop (.var 0) [])]) (.var 1))]
structure Is (FT : List Fn) (f np nn : Nat) (b : List S) : Prop where
  ex : ∃ nm N, FT[f]? = some ⟨nm, N, np, b⟩ ∧ N.length = nn
theorem Is.call {FT : List Fn} {f np nn : Nat} {b : List S} (i : Is FT f np nn b) {d : Nat} {args : List PV} {h : Hs} {Q : PV → Hs → Prop} (hl : args.length = np) (w : Wp (evSs (cal FT d) h.length b ((convs args h).1.map some ++ List.replicate (nn - np) none)) (convs args h).2 (Lv h.length Q)) : Wp (cal FT (d + 1) f args) h Q := by
  obtain ⟨nm, N, e, q⟩ := i.ex
  refine (w_cal e hl).mpr ?_
  show Wp (evSs (cal FT d) h.length b ((convs args h).1.map some ++ List.replicate (N.length - np) none)) (convs args h).2 (Lv h.length Q)
  rw [q]
  exact w
/-- a call whose cells stay: what its end gives -/
def Lk (Q : PV → Hs → Prop) (f : Fl) (h : Hs) : Prop := match f with
  | .rt v => Q v h
  | .nx _ => Q (.d .non) h
  | _ => False
theorem lk_nx {Q : PV → Hs → Prop} {e : Env} {h : Hs} : Lk Q (.nx e) h ↔ Q (.d .non) h := Iff.rfl
theorem Is.callk {FT : List Fn} {f np nn : Nat} {b : List S} (i : Is FT f np nn b) (hk : FT[f + KEEP]? = none) {d fb : Nat} {args : List PV} {h : Hs} {Q : PV → Hs → Prop} (hl : args.length = np) (w : Wp (evSs (cal FT d) fb b ((convs args h).1.map some ++ List.replicate (nn - np) none)) (convs args h).2 (Lk Q)) : Wp (cal FT (d + 1) (f + KEEP) (.d (.int (fb : Nat)) :: args)) h Q := by
  obtain ⟨nm, N, e, q⟩ := i.ex
  rw [cal_eq] at w
  rw [cal_eq]
  obtain ⟨r, h2, e2, z⟩ := w
  have key : Pe.call FT (d + 1) (f + KEEP) (.d (.int (fb : Nat)) :: args) h = (if args.length = np then
          match evSs (Pe.call FT d) fb b ((convs args h).1.map some ++ List.replicate (N.length - np) none) (convs args h).2 with
          | some (.rt v, h2) => some (v, h2)
          | some (.nx _, h2) => some (.d .non, h2)
          | _ => none
        else none) := by
    unfold Pe.call
    rw [hk, Nat.add_sub_cancel, e]
    rfl
  rw [if_pos hl, q, e2] at key
  cases r with
  | rt v => exact ⟨v, h2, key, z⟩
  | nx e => exact ⟨_, h2, key, z⟩
  | bk e => exact z.elim
  | ct e => exact z.elim
section
variable {FT : List Fn} {h : Hs} {Q : PV → Hs → Prop} {n d f : Nat}
theorem Dr.lt (a : Dr n h) : n < h.length := by
  obtain ⟨ds, e⟩ := a
  exact (List.getElem?_eq_some_iff.mp e).1
theorem Dn.dr {h' : Hs} (a : Dr n h) (b : Dn n h h') : Dr n h' := by
  obtain ⟨ds, rfl⟩ := b
  exact ⟨ds, List.getElem?_set_self a.lt⟩
theorem Dn.refl (a : Dr n h) : Dn n h h := by
  obtain ⟨ds, e⟩ := a
  refine ⟨ds, ?_⟩
  rw [List.ext_getElem?_iff]
  intro i
  by_cases hi : n = i
  · subst hi
    rw [e, List.getElem?_set_self (List.getElem?_eq_some_iff.mp e).1]
  · rw [List.getElem?_set_ne hi]
theorem Dn.trans {h1 h2 : Hs} (a : Dn n h h1) (b : Dn n h1 h2) : Dn n h h2 := by
  obtain ⟨ds, rfl⟩ := a
  obtain ⟨es, rfl⟩ := b
  exact ⟨es, by rw [List.set_set]⟩
theorem Dn.len {h' : Hs} (b : Dn n h h') : h'.length = h.length := by
  obtain ⟨ds, rfl⟩ := b
  exact List.length_set
theorem Dr.app {e : Hs} (a : Dr n h) : Dr n (h ++ e) := by
  obtain ⟨ds, q⟩ := a
  exact ⟨ds, by rw [List.getElem?_append_left (List.getElem?_eq_some_iff.mp q).1]; exact q⟩
theorem Dn.split {e h' : Hs} (hn : n < h.length) (b : Dn n (h ++ e) h') : ∃ h1, h' = h1 ++ e ∧ Dn n h h1 := by
  obtain ⟨ds, rfl⟩ := b
  exact ⟨h.set n (.lst (ds.map fun i => .d (.int i))), by rw [List.set_append_left _ _ hn], ds, rfl⟩
theorem take_self (h : Hs) : h.take h.length = h := List.take_length
/-- _law_take -/
theorem take_w (it : Is FT f 2 2 takeB) {m : Int} (hm : 0 < m) (a : Dr n h) (q : ∀ (r : Int) h1, 0 ≤ r → r < m → Dn n h h1 → Q (.d (.int r)) h1) : Wp (cal FT (d + 1) f [.ref n, .d (.int m)]) h Q := by
  refine it.call rfl ?_
  obtain ⟨ds, e⟩ := id a
  unfold takeB
  simp only [Pe.Pw.ws, List.set_cons_zero, List.set_cons_succ, List.length_cons, List.length_nil, List.map_cons, List.map_nil, List.cons_append, List.nil_append, List.replicate_succ, List.replicate_zero, Nat.reduceSub, Nat.reduceAdd, Nat.reduceLT, true_and, and_true, if_true, Bool.false_eq_true, if_false, true_implies, false_implies, forall_const, decide_eq_true_eq, decide_eq_false_iff_not, Bool.not_eq_true', Bool.not_eq_false', reduceCtorEq, w_lenR e]
  rw [List.length_map]
  rcases List.eq_nil_or_concat ds with rfl | ⟨xs, x, rfl⟩
  · refine ⟨fun _ => ?_, fun z => absurd rfl z⟩
    rw [take_self]
    exact q 0 h (Int.le_refl _) hm (Dn.refl a)
  · rw [List.concat_eq_append] at e ⊢
    refine ⟨fun z => ?_, fun _ => ?_⟩
    · simp at z
      omega
    · rw [List.map_append] at e
      simp only [Pe.Pw.ws, List.set_cons_zero, List.set_cons_succ, List.length_cons, List.length_nil, List.map_cons, List.map_nil, List.cons_append, List.nil_append, List.replicate_succ, List.replicate_zero, Nat.reduceSub, Nat.reduceAdd, Nat.reduceLT, true_and, and_true, if_true, Bool.false_eq_true, if_false, true_implies, false_implies, forall_const, decide_eq_true_eq, decide_eq_false_iff_not, Bool.not_eq_true', Bool.not_eq_false', reduceCtorEq, w_pop e]
      refine ⟨by omega, ?_⟩
      have hl : (h.set n (.lst (xs.map fun i => PV.d (.int i)))).length = h.length := List.length_set
      rw [← hl, take_self]
      exact q _ _ (Int.fmod_nonneg_of_pos _ hm) (Int.fmod_lt_of_pos _ hm) ⟨xs, rfl⟩
def pickB (tk : Nat) : List S := [.ret (.idx (.var 1) (.call tk [(.var 0), (.blt .len [(.var 1)])]))]
theorem atI_lt {α : Type} {xs : List α} {r : Int} (h0 : 0 ≤ r) (h1 : r < xs.length) : ∃ x, L2.atI xs r = some x ∧ x ∈ xs := by
  obtain ⟨k, rfl⟩ := Int.eq_ofNat_of_zero_le h0
  have hk : k < xs.length := by omega
  exact ⟨xs[k], by rw [atI_nat]; exact List.getElem?_eq_getElem hk, List.getElem_mem hk⟩
theorem Dn.take {e h' : Hs} (b : Dn n h h') : (h' ++ e).take h.length = h' := by
  rw [← b.len]
  exact List.take_left
theorem Dn.take0 {h' : Hs} (b : Dn n h h') : h'.take h.length = h' := by
  rw [← b.len]
  exact List.take_length
/-- _law_pick of a display of data -/
theorem pick_w {tk : Nat} (ip : Is FT f 2 2 (pickB tk)) (it : Is FT tk 2 2 takeB) {ds : List D} (hm : 0 < ds.length) (a : Dr n h) (q : ∀ (r : D) h1, r ∈ ds → Dn n h h1 → Q (.d r) h1) : Wp (cal FT (d + 1 + 1) f [.ref n, .tl (ds.map .d)]) h Q := by
  refine ip.call rfl ?_
  have hl := a.lt
  unfold pickB
  have e : (h ++ [Cell.lst (ds.map .d)])[h.length]? = some (.lst (ds.map .d)) := List.getElem?_concat_length ..
  simp only [Pe.Pw.ws, List.set_cons_zero, List.set_cons_succ, List.length_cons, List.length_nil, List.map_cons, List.map_nil, List.cons_append, List.nil_append, List.replicate_succ, List.replicate_zero, Nat.reduceSub, Nat.reduceAdd, Nat.reduceLT, true_and, and_true, if_true, Bool.false_eq_true, if_false, true_implies, false_implies, forall_const, decide_eq_true_eq, decide_eq_false_iff_not, Bool.not_eq_true', Bool.not_eq_false', reduceCtorEq, conv_tld, w_lenR e, List.length_map]
  refine take_w it (by omega) a.app fun r h1 r0 r1 b => ?_
  obtain ⟨h2, rfl, b2⟩ := b.split hl
  obtain ⟨x, e2, hx⟩ := atI_lt r0 r1
  have e3 : (h2 ++ [Cell.lst (ds.map .d)])[h.length]? = some (.lst (ds.map .d)) := by
    rw [← b2.len]
    exact List.getElem?_concat_length ..
  rw [← List.length_map (f := PV.d)] at r1
  simp only [Pe.Pw.ws, List.set_cons_zero, List.set_cons_succ, List.length_cons, List.length_nil, List.map_cons, List.map_nil, List.cons_append, List.nil_append, List.replicate_succ, List.replicate_zero, Nat.reduceSub, Nat.reduceAdd, Nat.reduceLT, true_and, and_true, if_true, Bool.false_eq_true, if_false, true_implies, false_implies, forall_const, decide_eq_true_eq, decide_eq_false_iff_not, Bool.not_eq_true', Bool.not_eq_false', reduceCtorEq, w_ixR e3 (show L2.atI (ds.map PV.d) r = some (.d x) by rw [atI_map, e2]; rfl)]
  rw [b2.take]
  exact q x h2 hx b2
/-! comparing -/
/-- data no deeper than k, of sizes that fit -/
def Sm : Nat → D → Prop
  | _, .non => True
  | _, .bl _ => True
  | _, .int _ => True
  | _, .str s => PyData.strOk s = true
  | 0, .tup _ => False
  | k + 1, .tup xs => xs.length ≤ sizeLine ∧ ∀ x ∈ xs, Sm k x
theorem sm_py : ∀ (k : Nat) (x : D), Sm k x → x.py.canLay0 = true ∧ x.py.depth ≤ k := by
  have all : ∀ (k : Nat), (∀ x, Sm k x → x.py.canLay0 = true ∧ x.py.depth ≤ k) → ∀ xs : List D, (∀ x ∈ xs, Sm k x) → PyData.canLayAll0 (D.pys xs) = true ∧ PyData.depthAll (D.pys xs) ≤ k := by
    intro k ih xs
    induction xs with
    | nil => intro _; exact ⟨rfl, Nat.zero_le _⟩
    | cons x xs ih2 =>
      intro hx
      obtain ⟨a1, a2⟩ := ih x (hx x List.mem_cons_self)
      obtain ⟨b1, b2⟩ := ih2 fun y hy => hx y (List.mem_cons_of_mem _ hy)
      simp only [D.pys, PyData.canLayAll0, PyData.depthAll, a1, b1, Bool.and_self, true_and]
      omega
  have leaf : ∀ (k : Nat) (x : D), (∀ xs, x ≠ .tup xs) → Sm k x → x.py.canLay0 = true ∧ x.py.depth ≤ k := fun k x nt h => by
    cases x with
    | non => exact ⟨by simp [D.py, PyData.canLay0], by simp [D.py, PyData.depth]⟩
    | bl b => exact ⟨by simp [D.py, PyData.canLay0], by simp [D.py, PyData.depth]⟩
    | int i => exact ⟨by simp [D.py, PyData.canLay0], by simp [D.py, PyData.depth]⟩
    | str s =>
      have h' : PyData.strOk s = true := by cases k <;> exact h
      exact ⟨by simp [D.py, PyData.canLay0, h'], by simp [D.py, PyData.depth]⟩
    | tup xs => exact absurd rfl (nt xs)
  intro k
  induction k with
  | zero =>
    intro x h
    cases x with
    | tup xs => exact h.elim
    | _ => exact leaf 0 _ (fun _ e => by cases e) h
  | succ k ih =>
    intro x h
    cases x with
    | tup xs =>
      obtain ⟨a, b⟩ := all k ih xs h.2
      simp only [D.py, PyData.canLay0, PyData.depth]
      exact ⟨a, by omega⟩
    | _ => exact leaf (k + 1) _ (fun _ e => by cases e) h
theorem sm_shaped {k : Nat} {x : D} (hk : k ≤ 64) (s : Sm k x) : SeqAt.shaped x.py = true := by
  obtain ⟨a, b⟩ := sm_py k x s
  unfold SeqAt.shaped
  rw [a, decide_eq_true (by omega)]
  rfl
theorem w_eqD {k : Nat} {x y : D} {R : Bool → Hs → Prop} (hk : k ≤ 64) (sx : Sm k x) (sy : Sm k y) : Wp (cmpV .eq (.d x) (.d y)) h R ↔ R (PyData.eqv x.py y.py) h := by
  refine w_iff ?_
  show (eqPy x.py y.py).map (fun b => (b, h)) = _
  unfold eqPy
  rw [sm_shaped hk sx, sm_shaped hk sy]
  rfl
theorem w_neD {k : Nat} {x y : D} {R : Bool → Hs → Prop} (hk : k ≤ 64) (sx : Sm k x) (sy : Sm k y) : Wp (cmpV .ne (.d x) (.d y)) h R ↔ R (!PyData.eqv x.py y.py) h := by
  refine w_iff ?_
  show (eqPy x.py y.py).map (fun b => (!b, h)) = _
  unfold eqPy
  rw [sm_shaped hk sx, sm_shaped hk sy]
  rfl
theorem bools_py (bs : List Bool) : toPysG (pyR h 4) (bs.map fun b => .d (.bl b)) = some (bs.map PyData.bool) := by
  induction bs with
  | nil => rfl
  | cons b bs ih =>
    show (match toPyG (pyR h 4) (.d (.bl b)), toPysG (pyR h 4) (bs.map fun b => PV.d (.bl b)) with
      | some y, some ys => some (y :: ys)
      | _, _ => none) = _
    rw [ih]
    rfl
theorem bools_sh (bs : List Bool) : SeqAt.shaped (.list (bs.map PyData.bool)) = true := by
  have a : PyData.canLayAll0 (bs.map PyData.bool) = true ∧ PyData.depthAll (bs.map PyData.bool) = 0 := by
    induction bs with
    | nil => exact ⟨rfl, rfl⟩
    | cons b bs ih => simp [PyData.canLayAll0, PyData.depthAll, PyData.canLay0, PyData.depth, ih]
  unfold SeqAt.shaped
  simp [PyData.canLay0, PyData.depth, a]
theorem w_ninB {bs : List Bool} {R : Bool → Hs → Prop} : Wp (cmpV .nin (.d (.bl false)) (.tl (bs.map fun b => .d (.bl b)))) h R ↔ R (bs.all id) h := by
  refine w_iff ?_
  have e : toPy h (.tl (bs.map fun b => .d (.bl b))) = some (.list (bs.map PyData.bool)) := by
    show (match toPysG (pyR h 4) (bs.map fun b => PV.d (.bl b)) with
      | some ys => some (PyData.list ys)
      | none => none) = _
    rw [bools_py]
  have e2 : inV (.d (.bl false)) (.tl (bs.map fun b => .d (.bl b))) h = some (bs.any fun b => b == false) := by
    show (match some (PyData.bool false), toPy h (.tl (bs.map fun b => .d (.bl b))) with
      | some a, some (.list ds) => if SeqAt.shaped a && SeqAt.shaped (.list ds) then some (ds.any fun z => PyData.eqv z a) else none
      | some a, some (.tuple ds) => if SeqAt.shaped a && SeqAt.shaped (.tuple ds) then some (ds.any fun z => PyData.eqv z a) else none
      | _, _ => none) = _
    rw [e]
    dsimp only
    rw [bools_sh, show SeqAt.shaped (.bool false) = true by decide +kernel]
    simp only [Bool.and_self, if_true, List.any_map]
    rfl
  show (inV (.d (.bl false)) (.tl (bs.map fun b => .d (.bl b))) h).map (fun b => (!b, h)) = _
  rw [e2]
  have e3 : ∀ bs : List Bool, (!(bs.any fun b => b == false)) = bs.all id := fun bs => by
    induction bs with
    | nil => rfl
    | cons b bs ih => cases b <;> simp_all
  rw [← e3]
  rfl
def sameB (me : Nat) : List S := [.ife (.blt (.isi [.tuple, .list]) [(.var 1)]) [.ife (.orr (.cmp .ne (.blt (.isi [.tuple]) [(.var 0)]) (.blt (.isi [.tuple]) [(.var 1)])) (.cmp .ne (.blt (.isi [.list]) [(.var 0)]) (.blt (.isi [.list]) [(.var 1)]))) [.ret (.cst (.bl false))] [], .ife (.cmp .ne (.blt .len [(.var 0)]) (.blt .len [(.var 1)])) [.ret (.cst (.bl false))] [], .ret (.cmp .nin (.cst (.bl false)) (.comp [2] (.nm 2) (.rng1 (.blt .len [(.var 1)])) false (.cst (.bl true)) (.call me [(.idx (.var 0) (.var 2)), (.idx (.var 1) (.var 2))])))] [], .ife (.orr (.cmp .ne (.blt (.isi [.bool]) [(.var 0)]) (.blt (.isi [.bool]) [(.var 1)])) (.cmp .ne (.blt (.isi [.int]) [(.var 0)]) (.blt (.isi [.int]) [(.var 1)]))) [.ret (.cst (.bl false))] [], .ife (.orr (.cmp .ne (.blt (.isi [.str]) [(.var 0)]) (.blt (.isi [.str]) [(.var 1)])) (.cmp .ne (.cmp .isN (.var 0) (.cst .non)) (.cmp .isN (.var 1) (.cst .non)))) [.ret (.cst (.bl false))] [], .ret (.cmp .eq (.var 0) (.var 1))]
theorem sm_leaf {j k : Nat} {x : D} (nt : ∀ xs, x ≠ .tup xs) (s : Sm j x) : Sm k x := by
  cases x with
  | tup xs => exact absurd rfl (nt xs)
  | str s' => cases j <;> cases k <;> exact s
  | _ => cases k <;> exact True.intro
theorem same_w (is : Is FT f 2 3 (sameB f)) : ∀ (k : Nat) (x : D) (h : Hs) (Q : PV → Hs → Prop) (d : Nat), Sm k x → k < d → Q (.d (.bl true)) h → Wp (cal FT d f [.d x, .d x]) h Q := by
  intro k
  induction k with
  | zero =>
    intro x h Q d s hd q
    obtain ⟨d, rfl⟩ : ∃ e, d = e + 1 := ⟨d - 1, by omega⟩
    refine is.call rfl ?_
    unfold sameB
    cases x with
    | tup xs => exact s.elim
    | _ => 
      simp only [Pe.Pw.ws, List.set_cons_zero, List.set_cons_succ, List.length_cons, List.length_nil, List.map_cons, List.map_nil, List.cons_append, List.nil_append, List.replicate_succ, List.replicate_zero, Nat.reduceSub, Nat.reduceAdd, Nat.reduceLT, true_and, and_true, if_true, Bool.false_eq_true, if_false, true_implies, false_implies, forall_const, decide_eq_true_eq, decide_eq_false_iff_not, Bool.not_eq_true', Bool.not_eq_false', reduceCtorEq, tyIs, List.any_cons, List.any_nil, Bool.or_false, beq_self_eq_true, w_eqD (by decide : 0 ≤ 64) s s, take_self, isNon, Bool.not_true]
      simpa [D.py, PyData.eqv] using q
  | succ k ih =>
    intro x h Q d s hd q
    obtain ⟨d, rfl⟩ : ∃ e, d = e + 1 := ⟨d - 1, by omega⟩
    cases x with
    | tup xs =>
      refine is.call rfl ?_
      unfold sameB
      simp only [Pe.Pw.ws, List.set_cons_zero, List.set_cons_succ, List.length_cons, List.length_nil, List.map_cons, List.map_nil, List.cons_append, List.nil_append, List.replicate_succ, List.replicate_zero, Nat.reduceSub, Nat.reduceAdd, Nat.reduceLT, true_and, and_true, if_true, Bool.false_eq_true, if_false, true_implies, false_implies, forall_const, decide_eq_true_eq, decide_eq_false_iff_not, Bool.not_eq_true', Bool.not_eq_false', reduceCtorEq, tyIs, List.any_cons, List.any_nil, Bool.or_false, beq_self_eq_true, take_self, Bool.true_or, Bool.false_or, Bool.not_true]
      have hz := s.1
      have hz2 : sizeLine = 2 ^ 24 := rfl
      refine ⟨fun z => absurd rfl z, fun _ => ⟨by omega, ?_⟩⟩
      refine w_clmap (rngL 0 (xs.length - 0 : Int).toNat) (fun _ => .d (.bl true)) its_rng (by rw [rngL_len]; omega) (fun x hx => ?_) ?_
      · obtain ⟨i, hi, e⟩ := List.getElem_of_mem hx
        obtain ⟨hi2, rfl⟩ := rngL_get (i := i) ((List.getElem?_eq_getElem hi).trans (congrArg some e))
        have hi3 : i < xs.length := by omega
        have ea : L2.atI xs (0 + (i : Int)) = some xs[i] := by
          rw [Int.zero_add, atI_nat]
          exact List.getElem?_eq_getElem hi3
        simp only [Pe.Pw.ws, List.set_cons_zero, List.set_cons_succ, List.length_cons, List.length_nil, List.map_cons, List.map_nil, List.cons_append, List.nil_append, List.replicate_succ, List.replicate_zero, Nat.reduceSub, Nat.reduceAdd, Nat.reduceLT, true_and, and_true, if_true, Bool.false_eq_true, if_false, true_implies, false_implies, forall_const, decide_eq_true_eq, decide_eq_false_iff_not, Bool.not_eq_true', Bool.not_eq_false', reduceCtorEq, w_ixT ea]
        exact ih _ _ _ _ (s.2 _ (List.getElem_mem hi3)) (by omega) ⟨rfl, rfl⟩
      · have e : ((rngL 0 (xs.length - 0 : Int).toNat).map fun _ => PV.d (.bl true)) = ((rngL 0 (xs.length - 0 : Int).toNat).map fun _ => true).map fun b => .d (.bl b) := by
          rw [List.map_map]
          rfl
        rw [e]
        simp only [Pe.Pw.ws, List.set_cons_zero, List.set_cons_succ, List.length_cons, List.length_nil, List.map_cons, List.map_nil, List.cons_append, List.nil_append, List.replicate_succ, List.replicate_zero, Nat.reduceSub, Nat.reduceAdd, Nat.reduceLT, true_and, and_true, if_true, Bool.false_eq_true, if_false, true_implies, false_implies, forall_const, decide_eq_true_eq, decide_eq_false_iff_not, Bool.not_eq_true', Bool.not_eq_false', reduceCtorEq, w_ninB, take_self]
        have e2 : (((rngL 0 (xs.length - 0 : Int).toNat).map fun _ => true).all id) = true := by simp
        rw [e2]
        exact q
    | _ =>
      refine is.call rfl ?_
      unfold sameB
      simp only [Pe.Pw.ws, List.set_cons_zero, List.set_cons_succ, List.length_cons, List.length_nil, List.map_cons, List.map_nil, List.cons_append, List.nil_append, List.replicate_succ, List.replicate_zero, Nat.reduceSub, Nat.reduceAdd, Nat.reduceLT, true_and, and_true, if_true, Bool.false_eq_true, if_false, true_implies, false_implies, forall_const, decide_eq_true_eq, decide_eq_false_iff_not, Bool.not_eq_true', Bool.not_eq_false', reduceCtorEq, tyIs, List.any_cons, List.any_nil, Bool.or_false, beq_self_eq_true, w_eqD (by decide : 0 ≤ 64) (sm_leaf (k := 0) (fun _ e => by cases e) s) (sm_leaf (k := 0) (fun _ e => by cases e) s), take_self, isNon, Bool.not_true]
      simpa [D.py, PyData.eqv] using q
/-! the draws -/
def I (i : Int) : PV := .d (.int i)
def drawsB : List S := [.asg (.nm 2) (.comp [7] (.nm 7) (.seq (.slc false true (.var 0) (.cst .non) (.cst (.int 63)))) false (.cst (.bl true)) (.bin .mod (.blt .int [(.var 7)]) (.bin .shl (.cst (.int 1)) (.cst (.int 7200))))), .ife (.cmp .eq (.blt .len [(.var 2)]) (.cst (.int 0))) [.ex (.mth .append (.var 2) [(.cst (.int 0))])] [], .asg (.nm 3) (.blt .list [(.var 2)]), .asg (.nm 4) (.lst []), .fr (.nm 5) (.rng1 (.var 1)) [.asg (.nm 6) (.bin .mod (.blt .int [(.var 5)]) (.blt .len [(.var 2)])), .ife (.an (.cmp .ge (.idx (.var 2) (.var 6)) (.bin .pow (.cst (.int 10)) (.cst (.int 18)))) (.cmp .gt (.idx (.var 3) (.var 6)) (.cst (.int 0)))) [.ex (.mth .append (.var 4) [(.bin .mod (.blt .int [(.idx (.var 3) (.var 6))]) (.cst (.int 1000)))]), .sub (.var 3) (.var 6) (.bin .fdiv (.idx (.var 3) (.var 6)) (.cst (.int 1000)))] [.asg (.nm 8) (.bin .mod (.blt .int [(.bin .add (.bin .add (.bin .mul (.idx (.var 2) (.var 6)) (.cst (.int 48271))) (.bin .mul (.var 5) (.cst (.int 69621)))) (.cst (.int 11)))]) (.cst (.int 2147483647))), .ex (.mth .append (.var 4) [(.bin .mod (.blt .int [(.bin .add (.bin .add (.bin .mul (.var 8) (.var 8)) (.bin .mul (.cst (.int 3)) (.var 8))) (.var 5))]) (.cst (.int 1000003)))])]], .ex (.mth .reverse (.var 4) []), .ret (.var 4)]
theorem gA {e : Hs} {k : Nat} : (h ++ e)[h.length + k]? = e[k]? := by
  rw [List.getElem?_append_right (by omega), Nat.add_sub_cancel_left]
theorem gA0 {e : Hs} {c : Cell} : (h ++ c :: e)[h.length]? = some c := gA (k := 0)
theorem sA {e : Hs} {k : Nat} {c : Cell} : (h ++ e).set (h.length + k) c = h ++ e.set k c := by
  rw [List.set_append_right _ _ (by omega), Nat.add_sub_cancel_left]
theorem sA0 {e : Hs} {b c : Cell} : (h ++ b :: e).set h.length c = h ++ c :: e := sA (k := 0)
/-- cut behind a statement -/
theorem w_cut {cf : Nat → List PV → M PV} {fb : Nat} {env : Env} {s : S} {r : List S} {F : Fl → Hs → Prop} (P : Env → Hs → Prop) (a : Wp (evS cf fb s env) h (Mid P F)) (b : ∀ e h, P e h → Wp (evSs cf fb r e) h F) : Wp (evSs cf fb (s :: r) env) h F := by
  rw [w_scons]
  refine wp_imp a fun fl h1 q => ?_
  cases fl with
  | nx e => exact b e h1 q
  | _ => exact q
theorem mulOk_r {i j : Int} (h : j.natAbs < 2 ^ 64) : mulOk i j = true := by
  unfold mulOk
  rw [decide_eq_true h, Bool.or_true]
theorem mulOk_l {i j : Int} (h : i.natAbs < 2 ^ 64) : mulOk i j = true := by
  unfold mulOk
  rw [decide_eq_true h, Bool.true_or]
theorem mapI (ds : List Int) : ds.map I = (ds.map D.int).map PV.d := by
  rw [List.map_map]
  rfl
theorem cut_mapI {xs : List Int} {lo hi : Option Int} : cutL ((xs.map D.int).map PV.d) lo hi = (cutL (xs.map D.int) lo hi).map PV.d := cutL_map
theorem p2 (n : Nat) : (1 : Int) * 2 ^ n ≠ 0 := by
  have : (0 : Int) < 2 ^ n := Int.pow_pos (by decide)
  omega
theorem cut_len {α : Type} {xs : List α} {lo hi : Option Int} : (cutL xs lo hi).length ≤ xs.length := by
  unfold cutL
  rw [List.length_take, List.length_drop]
  omega
theorem draws_w (is : Is FT f 2 9 drawsB) {ns : List Int} {many : Nat} (hl : ns.length ≤ 63) (hm : many ≤ 1000000) (q : ∀ ds : List Int, Q (.tl (ds.map I)) h) : Wp (cal FT (d + 1) f [.fl (ns.map .int), .d (.int many)]) h Q := by
  refine is.call rfl ?_
  have hz : sizeLine = 2 ^ 24 := rfl
  unfold drawsB
  have s1 : ∀ {P}, (∀ cs : List Int, cs.length ≤ 63 → P (.tl (cs.map I)) h) → Wp (evE (cal FT d) h.length (.comp [7] (.nm 7) (.seq (.slc false true (.var 0) (.cst .non) (.cst (.int 63)))) false (.cst (.bl true)) (.bin .mod (.blt .int [(.var 7)]) (.bin .shl (.cst (.int 1)) (.cst (.int 7200))))) [some (.fl (ns.map D.int)), some (.d (.int many)), none, none, none, none, none, none, none]) h P := by
    intro P p
    simp only [Pe.Pw.ws, List.set_cons_zero, List.set_cons_succ, List.length_cons, List.length_nil, List.map_cons, List.map_nil, List.cons_append, List.nil_append, List.replicate_succ, List.replicate_zero, Nat.reduceSub, Nat.reduceAdd, Nat.reduceLT, true_and, and_true, if_true, Bool.false_eq_true, if_false, true_implies, false_implies, forall_const, decide_eq_true_eq, decide_eq_false_iff_not, Bool.not_eq_true', Bool.not_eq_false', reduceCtorEq]
    rw [cut_mapI, cutL_map]
    simp only [Pe.Pw.ws, List.set_cons_zero, List.set_cons_succ, List.length_cons, List.length_nil, List.map_cons, List.map_nil, List.cons_append, List.nil_append, List.replicate_succ, List.replicate_zero, Nat.reduceSub, Nat.reduceAdd, Nat.reduceLT, true_and, and_true, if_true, Bool.false_eq_true, if_false, true_implies, false_implies, forall_const, decide_eq_true_eq, decide_eq_false_iff_not, Bool.not_eq_true', Bool.not_eq_false', reduceCtorEq]
    refine w_clmap _ (fun v => match v with
      | .d (.int i) => I (i.fmod (1 * 2 ^ (7200 : Int).toNat))
      | v => v) its_imm ?_ (fun x hx => ?_) ?_
    · rw [List.length_map, List.length_map]
      have := cut_len (xs := ns) (lo := none) (hi := some 63)
      omega
    · obtain ⟨y, hy, rfl⟩ := List.mem_map.mp hx
      obtain ⟨i, hi, rfl⟩ := List.mem_map.mp hy
      simp only [Pe.Pw.ws, List.set_cons_zero, List.set_cons_succ, List.length_cons, List.length_nil, List.map_cons, List.map_nil, List.cons_append, List.nil_append, List.replicate_succ, List.replicate_zero, Nat.reduceSub, Nat.reduceAdd, Nat.reduceLT, true_and, and_true, if_true, Bool.false_eq_true, if_false, true_implies, false_implies, forall_const, decide_eq_true_eq, decide_eq_false_iff_not, Bool.not_eq_true', Bool.not_eq_false', reduceCtorEq]
      exact ⟨by decide, p2 _, rfl⟩
    · have e : ((List.map D.int (cutL ns none (some 63))).map PV.d).map (fun v => match v with
        | .d (.int i) => I (i.fmod (1 * 2 ^ (7200 : Int).toNat))
        | v => v) = ((cutL ns none (some 63)).map fun i => i.fmod (1 * 2 ^ (7200 : Int).toNat)).map I := by
        rw [List.map_map, List.map_map, List.map_map]
        rfl
      rw [e]
      refine p _ ?_
      rw [List.length_map]
      have := cut_len (xs := ns) (lo := none) (hi := some 63)
      omega
  have cI : ∀ (xs : List Int) (h : Hs), conv (.tl (xs.map I)) h = (.ref h.length, h ++ [.lst (xs.map I)]) := fun xs h => by
    rw [mapI]
    exact conv_tld
  refine w_cut (fun e h1 => ∃ cs : List Int, cs.length ≤ 63 ∧ e = [some (.fl (ns.map D.int)), some (.d (.int many)), some (.ref h.length), none, none, none, none, none, none] ∧ h1 = h ++ [.lst (cs.map I)]) ?_ ?_
  · rw [w_asg]
    refine s1 fun cs hc => ?_
    simp only [Pe.Pw.ws, List.set_cons_zero, List.set_cons_succ, List.length_cons, List.length_nil, List.map_cons, List.map_nil, List.cons_append, List.nil_append, List.replicate_succ, List.replicate_zero, Nat.reduceSub, Nat.reduceAdd, Nat.reduceLT, true_and, and_true, if_true, Bool.false_eq_true, if_false, true_implies, false_implies, forall_const, decide_eq_true_eq, decide_eq_false_iff_not, Bool.not_eq_true', Bool.not_eq_false', reduceCtorEq, cI]
    exact ⟨cs, hc, rfl⟩
  rintro _ _ ⟨cs, hc, rfl, rfl⟩
  refine w_cut (fun e h1 => ∃ cs : List Int, 0 < cs.length ∧ cs.length ≤ 64 ∧ e = [some (.fl (ns.map D.int)), some (.d (.int many)), some (.ref h.length), none, none, none, none, none, none] ∧ h1 = h ++ [.lst (cs.map I)]) ?_ ?_
  · simp only [Pe.Pw.ws, List.set_cons_zero, List.set_cons_succ, List.length_cons, List.length_nil, List.map_cons, List.map_nil, List.cons_append, List.nil_append, List.replicate_succ, List.replicate_zero, Nat.reduceSub, Nat.reduceAdd, Nat.reduceLT, true_and, and_true, if_true, Bool.false_eq_true, if_false, true_implies, false_implies, forall_const, decide_eq_true_eq, decide_eq_false_iff_not, Bool.not_eq_true', Bool.not_eq_false', reduceCtorEq, w_lenR gA0]
    rw [List.length_map]
    refine ⟨fun z => ?_, fun z => ?_⟩
    · simp only [Pe.Pw.ws, List.set_cons_zero, List.set_cons_succ, List.length_cons, List.length_nil, List.map_cons, List.map_nil, List.cons_append, List.nil_append, List.replicate_succ, List.replicate_zero, Nat.reduceSub, Nat.reduceAdd, Nat.reduceLT, true_and, and_true, if_true, Bool.false_eq_true, if_false, true_implies, false_implies, forall_const, decide_eq_true_eq, decide_eq_false_iff_not, Bool.not_eq_true', Bool.not_eq_false', reduceCtorEq, w_app gA0 (show (cs.map I).length < sizeLine by rw [List.length_map]; omega), sA0]
      exact ⟨cs ++ [0], by simp, by simp; omega, by rw [List.map_append]; rfl⟩
    · exact ⟨cs, by omega, by omega, rfl⟩
  rintro _ _ ⟨cs, h0, hc, rfl, rfl⟩
  simp only [Pe.Pw.ws, List.set_cons_zero, List.set_cons_succ, List.length_cons, List.length_nil, List.map_cons, List.map_nil, List.cons_append, List.nil_append, List.replicate_succ, List.replicate_zero, Nat.reduceSub, Nat.reduceAdd, Nat.reduceLT, true_and, and_true, if_true, Bool.false_eq_true, if_false, true_implies, false_implies, forall_const, decide_eq_true_eq, decide_eq_false_iff_not, Bool.not_eq_true', Bool.not_eq_false', reduceCtorEq, w_listR gA0, cI]
  refine ⟨by omega, by omega, ?_⟩
  simp only [List.length_append, List.length_cons, List.length_nil, List.append_assoc, List.cons_append, List.nil_append, Nat.reduceAdd, Nat.add_assoc]
  refine w_for (rngL 0 (many - 0 : Int).toNat) (fun i e h1 => ∃ (ls ds : List Int) (e5 e6 e7 e8 : Option PV), ls.length = cs.length ∧ ds.length = i ∧
    e = [some (.fl (ns.map D.int)), some (.d (.int many)), some (.ref h.length), some (.ref (h.length + 1)), some (.ref (h.length + 2)), e5, e6, e7, e8] ∧ h1 = h ++ [.lst (cs.map I), .lst (ls.map I), .lst (ds.map I)])
    ⟨cs, [], none, none, none, none, rfl, rfl, rfl, rfl⟩ (fun i e h1 _ _ => its_rng) (fun i e h1 x ex p => ?_) fun e h1 p => ?_
  · obtain ⟨ls, ds, e5, e6, e7, e8, h2, h3, rfl, rfl⟩ := p
    obtain ⟨hi, rfl⟩ := rngL_get ex
    have r0 : 0 ≤ (0 + (i : Int)).fmod cs.length := Int.fmod_nonneg_of_pos _ (by omega)
    have r1 : (0 + (i : Int)).fmod cs.length < cs.length := Int.fmod_lt_of_pos _ (by omega)
    obtain ⟨c, ec, _⟩ := atI_lt r0 r1
    obtain ⟨l, el, _⟩ := atI_lt (xs := ls) r0 (by rw [h2]; exact r1)
    obtain ⟨j, ej, hj⟩ : ∃ j, L2.ixN ls.length ((0 + (i : Int)).fmod cs.length) = some j ∧ j < ls.length := by
      unfold L2.ixN
      rw [if_pos r0, if_pos (by rw [h2]; exact r1)]
      exact ⟨_, rfl, by omega⟩
    have ec' : L2.atI (cs.map I) ((0 + (i : Int)).fmod cs.length) = some (.d (.int c)) := by rw [atI_map, ec]; rfl
    have el' : L2.atI (ls.map I) ((0 + (i : Int)).fmod cs.length) = some (.d (.int l)) := by rw [atI_map, el]; rfl
    have g1 : (h ++ [Cell.lst (cs.map I), .lst (ls.map I), .lst (ds.map I)])[h.length + 1]? = some (.lst (ls.map I)) := gA
    have g2 : (h ++ [Cell.lst (cs.map I), .lst (ls.map I), .lst (ds.map I)])[h.length + 2]? = some (.lst (ds.map I)) := gA
    have hz2 : (ds.map I).length < sizeLine := by rw [List.length_map]; omega
    simp only [Pe.Pw.ws, List.set_cons_zero, List.set_cons_succ, List.length_cons, List.length_nil, List.map_cons, List.map_nil, List.cons_append, List.nil_append, List.replicate_succ, List.replicate_zero, Nat.reduceSub, Nat.reduceAdd, Nat.reduceLT, true_and, and_true, if_true, Bool.false_eq_true, if_false, true_implies, false_implies, forall_const, decide_eq_true_eq, decide_eq_false_iff_not, Bool.not_eq_true', Bool.not_eq_false', reduceCtorEq, w_lenR gA0, List.length_map]
    refine ⟨by omega, ?_⟩
    simp only [Pe.Pw.ws, List.set_cons_zero, List.set_cons_succ, List.length_cons, List.length_nil, List.map_cons, List.map_nil, List.cons_append, List.nil_append, List.replicate_succ, List.replicate_zero, Nat.reduceSub, Nat.reduceAdd, Nat.reduceLT, true_and, and_true, if_true, Bool.false_eq_true, if_false, true_implies, false_implies, forall_const, decide_eq_true_eq, decide_eq_false_iff_not, Bool.not_eq_true', Bool.not_eq_false', reduceCtorEq, w_ixR gA0 ec']
    have g1' : ∀ c, (h ++ [Cell.lst (cs.map I), .lst (ls.map I), c])[h.length + 1]? = some (.lst (ls.map I)) := fun _ => gA
    have ej' : L2.ixN (ls.map I).length ((0 + (i : Int)).fmod cs.length) = some j := by rw [List.length_map]; exact ej
    have dI : ∀ x, (ds.map I) ++ [PV.d (.int x)] = (ds ++ [x]).map I := fun x => by rw [List.map_append]; rfl
    have mI : ∀ x, (ls.map I).set j (PV.d (.int x)) = (ls.set j x).map I := fun x => by rw [List.map_set]; rfl
    have m0 : ∀ x : Int, 0 ≤ x.fmod 2147483647 ∧ x.fmod 2147483647 < 2147483647 := fun x => ⟨Int.fmod_nonneg_of_pos _ (by decide), Int.fmod_lt_of_pos _ (by decide)⟩
    refine ⟨by decide, fun _ => ?_, fun _ => ?_⟩
    · simp only [Pe.Pw.ws, List.set_cons_zero, List.set_cons_succ, List.length_cons, List.length_nil, List.map_cons, List.map_nil, List.cons_append, List.nil_append, List.replicate_succ, List.replicate_zero, Nat.reduceSub, Nat.reduceAdd, Nat.reduceLT, true_and, and_true, if_true, Bool.false_eq_true, if_false, true_implies, false_implies, forall_const, decide_eq_true_eq, decide_eq_false_iff_not, Bool.not_eq_true', Bool.not_eq_false', reduceCtorEq, w_ixR g1 el']
      refine ⟨fun _ => ⟨by decide, ?_⟩, fun _ => ?_⟩
      · simp only [Pe.Pw.ws, List.set_cons_zero, List.set_cons_succ, List.length_cons, List.length_nil, List.map_cons, List.map_nil, List.cons_append, List.nil_append, List.replicate_succ, List.replicate_zero, Nat.reduceSub, Nat.reduceAdd, Nat.reduceLT, true_and, and_true, if_true, Bool.false_eq_true, if_false, true_implies, false_implies, forall_const, decide_eq_true_eq, decide_eq_false_iff_not, Bool.not_eq_true', Bool.not_eq_false', reduceCtorEq, w_app g2 hz2, sA, w_ixR (g1' _) el', w_set (g1' _) ej', dI, mI]
        exact ⟨by decide, ls.set j (l.fdiv 1000), ds ++ [_], _, _, _, _, by rw [List.length_set]; exact h2, by simp [h3], rfl, rfl⟩
      · simp only [Pe.Pw.ws, List.set_cons_zero, List.set_cons_succ, List.length_cons, List.length_nil, List.map_cons, List.map_nil, List.cons_append, List.nil_append, List.replicate_succ, List.replicate_zero, Nat.reduceSub, Nat.reduceAdd, Nat.reduceLT, true_and, and_true, if_true, Bool.false_eq_true, if_false, true_implies, false_implies, forall_const, decide_eq_true_eq, decide_eq_false_iff_not, Bool.not_eq_true', Bool.not_eq_false', reduceCtorEq, w_ixR gA0 ec', w_app g2 hz2, sA, dI]
        have := m0 (c * 48271 + (0 + (i : Int)) * 69621 + 11)
        exact ⟨mulOk_r (by decide), mulOk_r (by decide), by decide, mulOk_r (by omega), mulOk_l (by decide), by decide, ls, ds ++ [_], _, _, _, _, h2, by simp [h3], rfl, rfl⟩
    · simp only [Pe.Pw.ws, List.set_cons_zero, List.set_cons_succ, List.length_cons, List.length_nil, List.map_cons, List.map_nil, List.cons_append, List.nil_append, List.replicate_succ, List.replicate_zero, Nat.reduceSub, Nat.reduceAdd, Nat.reduceLT, true_and, and_true, if_true, Bool.false_eq_true, if_false, true_implies, false_implies, forall_const, decide_eq_true_eq, decide_eq_false_iff_not, Bool.not_eq_true', Bool.not_eq_false', reduceCtorEq, w_ixR gA0 ec', w_app g2 hz2, sA, dI]
      have := m0 (c * 48271 + (0 + (i : Int)) * 69621 + 11)
      exact ⟨mulOk_r (by decide), mulOk_r (by decide), by decide, mulOk_r (by omega), mulOk_l (by decide), by decide, ls, ds ++ [_], _, _, _, _, h2, by simp [h3], rfl, rfl⟩
  · obtain ⟨ls, ds, e5, e6, e7, e8, h2, h3, rfl, rfl⟩ := p
    have g2 : (h ++ [Cell.lst (cs.map I), .lst (ls.map I), .lst (ds.map I)])[h.length + 2]? = some (.lst (ds.map I)) := gA
    simp only [Pe.Pw.ws, List.set_cons_zero, List.set_cons_succ, List.length_cons, List.length_nil, List.map_cons, List.map_nil, List.cons_append, List.nil_append, List.replicate_succ, List.replicate_zero, Nat.reduceSub, Nat.reduceAdd, Nat.reduceLT, true_and, and_true, if_true, Bool.false_eq_true, if_false, true_implies, false_implies, forall_const, decide_eq_true_eq, decide_eq_false_iff_not, Bool.not_eq_true', Bool.not_eq_false', reduceCtorEq, w_rev g2, sA]
    have g3 : (h ++ [Cell.lst (cs.map I), .lst (ls.map I), .lst (ds.map I).reverse])[h.length + 2]? = some (.lst ((ds.reverse.map D.int).map PV.d)) := by
      rw [gA, ← mapI, List.map_reverse]
      rfl
    rw [lv_own (Nat.le_add_right _ _) g3, ← mapI, List.take_left]
    exact q _
end
end Pe.Pw
/-! Pe: more plain rules. -/
namespace Pe.Pw
open PySem
section
variable {FT : List Fn} {h : Hs} {Q : PV → Hs → Prop} {n d f : Nat}
theorem eq_of_wp {α : Type} {m : M α} {a : α} {h1 : Hs} (w : Wp m h fun x h' => x = a ∧ h' = h1) : m h = some (a, h1) := by
  obtain ⟨x, h', e, rfl, rfl⟩ := wp_some w
  exact e
theorem mkTup_1 {a : D} : mkTup [.d a] = .d (.tup [a]) := rfl
theorem mkTup_2 {a b : D} : mkTup [.d a, .d b] = .d (.tup [a, b]) := rfl
theorem sz {n : Nat} (h : n ≤ 16777216 := by omega) : n ≤ sizeLine := h
theorem its_enum {xs : List PV} : Its (.enum (.imm xs)) h (xs.mapIdx fun i x => mkTup [.d (.int i), x]) := by
  refine ⟨fun i => ?_, ?_⟩
  · show some (xs[i]?.map fun x => mkTup [.d (.int i), x]) = _
    rw [List.getElem?_mapIdx]
  · show xs.length = _
    rw [List.length_mapIdx]
/-- _law_put -/
def putB : List S := [.ret (.bin .add (.bin .add (.slc false true (.var 0) (.cst .non) (.var 1)) (.tup [(.var 2)])) (.slc true false (.var 0) (.bin .add (.var 1) (.cst (.int 1))) (.cst .non)))]
theorem put_e (is : Is FT f 3 3 putB) {xs : List D} {k : Nat} {x : D} (hl : xs.length ≤ 1000000) : cal FT (d + 1) f [.d (.tup xs), .d (.int k), .d x] h = some (.d (.tup (xs.take k ++ [x] ++ xs.drop (k + 1))), h) := by
  refine eq_of_wp (is.call rfl ?_)
  unfold putB
  simp only [Pe.Pw.ws, List.set_cons_zero, List.set_cons_succ, List.length_cons, List.length_nil, List.map_cons, List.map_nil, List.cons_append, List.nil_append, List.replicate_succ, List.replicate_zero, Nat.reduceSub, Nat.reduceAdd, Nat.reduceLT, true_and, and_true, if_true, Bool.false_eq_true, if_false, true_implies, false_implies, forall_const, decide_eq_true_eq, decide_eq_false_iff_not, Bool.not_eq_true', Bool.not_eq_false', reduceCtorEq, mkTup_1, take_self]
  have e : ((k : Int) + 1) = ((k + 1 : Nat) : Int) := by omega
  rw [e, cut_hi, cut_lo]
  simp only [List.length_append, List.length_take, List.length_drop, List.length_cons, List.length_nil]
  exact ⟨sz, sz, sz, trivial⟩
/-- a comprehension over the pictures of plain things -/
theorem w_clx {α : Type} {f : PV → M (Option PV)} {iv : ItV} {C : List PV → Hs → Prop} (xs : List α) (tod g : α → PV) (hi : Its iv h (xs.map tod)) (z : xs.length ≤ sizeLine)
    (st : ∀ x ∈ xs, Wp (f (tod x)) h fun o h1 => o = some (g x) ∧ h1 = h) (fin : C (xs.map g) h) : Wp (cloop f iv (iv.fuel h) 0 []) h C := by
  refine w_cl (xs.map tod) (fun i acc h1 => h1 = h ∧ acc = (xs.take i).map g) ⟨rfl, rfl⟩ (fun i acc h1 _ p => by rw [p.1]; exact hi) (fun i acc h1 y e p => ?_) fun acc h1 p => ?_
  · obtain ⟨rfl, rfl⟩ := p
    rw [List.getElem?_map] at e
    cases q : xs[i]? with
    | none => rw [q] at e; cases e
    | some x =>
      rw [q] at e
      cases e
      refine wp_imp (st x (List.mem_of_getElem? q)) fun o h2 w => ?_
      obtain ⟨rfl, rfl⟩ := w
      have hlt := (List.getElem?_eq_some_iff.mp q).1
      refine ⟨⟨rfl, ?_⟩, ?_⟩
      · rw [List.take_add_one, q, List.map_append]
        rfl
      · rw [List.length_map, List.length_take]
        omega
  · obtain ⟨rfl, rfl⟩ := p
    rw [List.length_map, List.take_length]
    exact fin
theorem its_map {α : Type} {xs : List α} {g : α → D} : Its (.seq (.imm ((xs.map g).map PV.d))) h (xs.map fun x => PV.d (g x)) := by
  rw [List.map_map]
  exact its_imm
/-- walking a tuple of pictures -/
theorem w_forT {α : Type} {cf : Nat → List PV → M PV} {fb : Nat} {env : Env} {F : Fl → Hs → Prop} {t : T} {b : List S} (xs : List α) (tod : α → D) (P : Nat → Env → Hs → Prop) (p0 : P 0 env h)
    (st : ∀ i env h x, xs[i]? = some x → P i env h → Wp (bindT t (.d (tod x)) env) h fun e h => Wp (evSs cf fb b e) h (FStep (P (i + 1)) F)) (fin : ∀ env h, P xs.length env h → F (.nx env) h) :
    Wp (floop t (evSs cf fb b) (.seq (.imm ((xs.map tod).map PV.d))) ((ItV.seq (.imm ((xs.map tod).map PV.d))).fuel h) 0 env) h F := by
  refine w_for ((xs.map tod).map PV.d) P p0 (fun _ _ _ _ _ => its_imm) (fun i env h x e p => ?_) fun e h p => ?_
  · rw [List.getElem?_map, List.getElem?_map] at e
    cases q : xs[i]? with
    | none => rw [q] at e; cases e
    | some y =>
      rw [q] at e
      cases e
      exact st i env h y q p
  · rw [List.length_map, List.length_map] at p
    exact fin e h p
theorem w_forN {cf : Nat → List PV → M PV} {fb : Nat} {env : Env} {F : Fl → Hs → Prop} {t : T} {b : List S} {lo : Int} {n : Nat} (P : Nat → Env → Hs → Prop) (p0 : P 0 env h)
    (st : ∀ i env h, i < n → P i env h → Wp (bindT t (.d (.int (lo + i))) env) h fun e h => Wp (evSs cf fb b e) h (FStep (P (i + 1)) F)) (fin : ∀ env h, P n env h → F (.nx env) h) :
    Wp (floop t (evSs cf fb b) (.rng lo n) ((ItV.rng lo n).fuel h) 0 env) h F := by
  refine w_for (rngL lo n) P p0 (fun _ _ _ _ _ => its_rng) (fun i env h x e p => ?_) fun e h p => ?_
  · obtain ⟨hi, rfl⟩ := rngL_get e
    exact st i env h hi p
  · rw [rngL_len] at p
    exact fin e h p
theorem w_clN {f : PV → M (Option PV)} {lo : Int} {n : Nat} {C : List PV → Hs → Prop} (P : Nat → List PV → Hs → Prop) (p0 : P 0 [] h)
    (st : ∀ i acc h, i < n → P i acc h → Wp (f (.d (.int (lo + i)))) h (CStep (P (i + 1)) acc)) (fin : ∀ acc h, P n acc h → C acc h) : Wp (cloop f (.rng lo n) ((ItV.rng lo n).fuel h) 0 []) h C := by
  refine w_cl (rngL lo n) P p0 (fun _ _ _ _ _ => its_rng) (fun i acc h x e p => ?_) fun e h p => ?_
  · obtain ⟨hi, rfl⟩ := rngL_get e
    exact st i acc h hi p
  · rw [rngL_len] at p
    exact fin e h p
/-! a frame's own first cell -/
theorem app_none {fb : Nat} {xs : List PV} {x : D} (e : h[n]? = some (.lst xs)) (z : ¬ xs.length < sizeLine) : mthV fb .append (.ref n) [.d x] h = none := by
  show (match h[n]? with
      | some (.lst xs) => if (true && decide (xs.length < sizeLine)) = true then some (PV.d .non, h.set n (.lst (xs ++ [PV.d x]))) else none
      | none => none) = _
  rw [e]
  dsimp only
  rw [decide_eq_false z]
  rfl
theorem w_app0 {fb : Nat} {xs : List PV} {x : D} {e : Hs} : Wp (mthV fb .append (.ref h.length) [.d x]) (h ++ .lst xs :: e) Q ↔ xs.length < sizeLine ∧ Q (.d .non) (h ++ .lst (xs ++ [.d x]) :: e) := by
  by_cases z : xs.length < sizeLine
  · rw [w_app gA0 z, sA0]
    exact ⟨fun q => ⟨z, q⟩, fun q => q.2⟩
  · refine ⟨fun q => ?_, fun q => absurd q.1 z⟩
    obtain ⟨a, h1, e1, _⟩ := wp_some q
    rw [app_none gA0 z] at e1
    cases e1
theorem lv_own0 {xs : List PV} {ds : List D} {e : Hs} (hx : allD xs = some ds) : Lv h.length Q (.rt (.ref h.length)) (h ++ .lst xs :: e) ↔ Q (.tl xs) h := by
  have := allD_some hx
  subst this
  rw [lv_own (Nat.le_refl _) gA0, List.take_left]
theorem w_len0 {xs : List PV} {e : Hs} : Wp (bltV .len [.ref h.length]) (h ++ .lst xs :: e) Q ↔ Q (.d (.int xs.length)) (h ++ .lst xs :: e) := w_lenR gA0
theorem w_tup0 {xs : List PV} {e : Hs} : Wp (bltV .tuple [.ref h.length]) (h ++ .lst xs :: e) Q ↔ Q (mkTup xs) (h ++ .lst xs :: e) := w_tupR gA0
theorem pickI_w {tk : Nat} (ip : Is FT f 2 2 (pickB tk)) (it : Is FT tk 2 2 takeB) {xs : List PV} (is : List Int) (hx : xs = (is.map D.int).map PV.d) (hm : 0 < is.length) (a : Dr n h) (q : ∀ (r : Int) h1, r ∈ is → Dn n h h1 → Q (.d (.int r)) h1) : Wp (cal FT (d + 1 + 1) f [.ref n, .tl xs]) h Q := by
  rw [hx]
  refine pick_w ip it (by rw [List.length_map]; exact hm) a fun r h1 hr b => ?_
  obtain ⟨i, hi, rfl⟩ := List.mem_map.mp hr
  exact q i h1 hi b
end
end Pe.Pw
/-! Pe: towns, and the defs about them that stand in many laws. -/
namespace Pe.Pw
open PySem
/-- a place: its mark, its doors -/
abbrev Pl := Str × List (Option Nat)
def oN : Option Nat → D
  | none => .non
  | some g => .int (g : Nat)
abbrev doorsD (ds : List (Option Nat)) : D := .tup (ds.map oN)
abbrev plD (p : Pl) : D := .tup [.str p.1, doorsD p.2]
abbrev townD (t : List Pl) : D := .tup (t.map plD)
abbrev walkD (w : List Nat) : D := .tup (w.map fun d => .int (d : Nat))
structure TownOk (t : List Pl) : Prop where
  len : t.length ≤ 100
  doors : ∀ p ∈ t, p.2.length ≤ 100
  goals : ∀ p ∈ t, ∀ g, some g ∈ p.2 → g < t.length
  mark : ∀ p ∈ t, PyData.strOk p.1 = true ∧ p.1.length ≤ 100000
def sight (p : Pl) : D := .tup [.str p.1, .tup (p.2.map fun g => .int (if g.isSome = true then 1 else 0))]
def stepP (p : Pl) (d : Nat) : Option Nat := p.2[d]?.join
def endP (t : List Pl) : Nat → List Nat → Option Nat
  | k, [] => some k
  | k, d :: w => match t[k]? with
    | some p => match stepP p d with
      | some g => endP t g w
      | none => none
    | none => none
theorem endP_snoc {t : List Pl} {d : Nat} : ∀ (w : List Nat) (k now : Nat), endP t k w = some now → endP t k (w ++ [d]) = endP t now [d]
  | [], k, now, e => by
    cases e
    rfl
  | x :: w, k, now, e => by
    rw [List.cons_append]
    unfold endP at e ⊢
    split at e
    · split at e
      · exact endP_snoc w _ now e
      · cases e
    · cases e
theorem endP_none {t : List Pl} {d : Nat} {r : List Nat} : ∀ (w : List Nat) (k now : Nat), endP t k w = some now → endP t now [d] = none → endP t k (w ++ d :: r) = none
  | [], k, now, e, n => by
    cases e
    rw [List.nil_append]
    unfold endP at n ⊢
    split at n
    · split at n
      · cases n
      · rename_i q
        rfl
    · rfl
  | x :: w, k, now, e, n => by
    rw [List.cons_append]
    unfold endP at e ⊢
    split at e
    · split at e
      · exact endP_none w _ now e n
      · cases e
    · cases e
theorem endP_one {t : List Pl} {k d : Nat} {p : Pl} (e : t[k]? = some p) : endP t k [d] = stepP p d := by
  unfold endP
  rw [e]
  dsimp only
  cases stepP p d <;> rfl
theorem stepP_mem {p : Pl} {d g : Nat} (e : stepP p d = some g) : some g ∈ p.2 := by
  unfold stepP at e
  cases q : p.2[d]? with
  | none => rw [q] at e; cases e
  | some o =>
    rw [q] at e
    have : o = some g := e
    subst this
    exact List.mem_of_getElem? q
section
variable {FT : List Fn} {h : Hs} {Q : PV → Hs → Prop} {n d f : Nat}
theorem at_pl {t : List Pl} {k : Nat} {p : Pl} (e : t[k]? = some p) : L2.atI (t.map plD) (k : Int) = some (plD p) := by
  rw [atI_map, atI_nat, e]
  rfl
theorem at_door {ds : List (Option Nat)} {k : Nat} {g : Option Nat} (e : ds[k]? = some g) : L2.atI (ds.map oN) (k : Int) = some (oN g) := by
  rw [atI_map, atI_nat, e]
  rfl
theorem a2_1 {a b : D} : L2.atI [a, b] 1 = some b := rfl
def sightB : List S := [.asg (.tup [(.nm 2), (.nm 3)]) (.idx (.var 0) (.var 1)), .ret (.tup [(.var 2), (.blt .tuple [(.comp [4] (.nm 4) (.seq (.var 3)) false (.cst (.bl true)) (.ifx (.cmp .isN (.var 4) (.cst .non)) (.cst (.int 0)) (.cst (.int 1))))])])]
theorem sight_e (is : Is FT f 2 5 sightB) {t : List Pl} {k : Nat} {p : Pl} (ok : TownOk t) (e : t[k]? = some p) : cal FT (d + 1) f [.d (townD t), .d (.int k)] h = some (.d (sight p), h) := by
  refine eq_of_wp (is.call rfl ?_)
  unfold sightB
  have l1 := ok.doors p (List.mem_of_getElem? e)
  simp only [Pe.Pw.ws, List.set_cons_zero, List.set_cons_succ, List.length_cons, List.length_nil, List.map_cons, List.map_nil, List.cons_append, List.nil_append, List.replicate_succ, List.replicate_zero, Nat.reduceSub, Nat.reduceAdd, Nat.reduceLT, true_and, and_true, if_true, Bool.false_eq_true, if_false, true_implies, false_implies, forall_const, decide_eq_true_eq, decide_eq_false_iff_not, Bool.not_eq_true', Bool.not_eq_false', reduceCtorEq, w_ixT (at_pl e)]
  refine w_clx p.2 (fun g => .d (oN g)) (fun g => .d (.int (if g.isSome = true then 1 else 0))) its_map (sz (by omega)) (fun g hg => ?_) ?_
  · cases g <;> simp only [Pe.Pw.ws, List.set_cons_zero, List.set_cons_succ, List.length_cons, List.length_nil, List.map_cons, List.map_nil, List.cons_append, List.nil_append, List.replicate_succ, List.replicate_zero, Nat.reduceSub, Nat.reduceAdd, Nat.reduceLT, true_and, and_true, if_true, Bool.false_eq_true, if_false, true_implies, false_implies, forall_const, decide_eq_true_eq, decide_eq_false_iff_not, Bool.not_eq_true', Bool.not_eq_false', reduceCtorEq, oN, isNon, Option.isSome_none, Option.isSome_some]
  · rw [show (p.2.map fun g => PV.d (.int (if g.isSome = true then 1 else 0))) = (p.2.map fun g => D.int (if g.isSome = true then 1 else 0)).map PV.d by rw [List.map_map]; rfl, mkTup_ds]
    simp only [Pe.Pw.ws, List.set_cons_zero, List.set_cons_succ, List.length_cons, List.length_nil, List.map_cons, List.map_nil, List.cons_append, List.nil_append, List.replicate_succ, List.replicate_zero, Nat.reduceSub, Nat.reduceAdd, Nat.reduceLT, true_and, and_true, if_true, Bool.false_eq_true, if_false, true_implies, false_implies, forall_const, decide_eq_true_eq, decide_eq_false_iff_not, Bool.not_eq_true', Bool.not_eq_false', reduceCtorEq, mkTup_2, take_self]
    exact ⟨(sz : 2 ≤ sizeLine), rfl⟩
def stepB : List S := [.asg (.nm 3) (.idx (.idx (.var 0) (.var 1)) (.cst (.int 1))), .ife (.cmp .ge (.var 2) (.blt .len [(.var 3)])) [.ret (.cst .non)] [], .ret (.idx (.var 3) (.var 2))]
theorem step_e (is : Is FT f 3 4 stepB) {t : List Pl} {k g : Nat} {p : Pl} (e : t[k]? = some p) : cal FT (d + 1) f [.d (townD t), .d (.int k), .d (.int g)] h = some (.d (oN (stepP p g)), h) := by
  refine eq_of_wp (is.call rfl ?_)
  unfold stepB
  simp only [Pe.Pw.ws, List.set_cons_zero, List.set_cons_succ, List.length_cons, List.length_nil, List.map_cons, List.map_nil, List.cons_append, List.nil_append, List.replicate_succ, List.replicate_zero, Nat.reduceSub, Nat.reduceAdd, Nat.reduceLT, true_and, and_true, if_true, Bool.false_eq_true, if_false, true_implies, false_implies, forall_const, decide_eq_true_eq, decide_eq_false_iff_not, Bool.not_eq_true', Bool.not_eq_false', reduceCtorEq, w_ixT (at_pl e), w_ixT a2_1, take_self, List.length_map]
  refine ⟨fun z => ?_, fun z => ?_⟩
  · unfold stepP
    rw [List.getElem?_eq_none (by omega)]
    rfl
  · have hg : g < p.2.length := by omega
    have eg : p.2[g]? = some p.2[g] := List.getElem?_eq_getElem hg
    simp only [Pe.Pw.ws, List.set_cons_zero, List.set_cons_succ, List.length_cons, List.length_nil, List.map_cons, List.map_nil, List.cons_append, List.nil_append, List.replicate_succ, List.replicate_zero, Nat.reduceSub, Nat.reduceAdd, Nat.reduceLT, true_and, and_true, if_true, Bool.false_eq_true, if_false, true_implies, false_implies, forall_const, decide_eq_true_eq, decide_eq_false_iff_not, Bool.not_eq_true', Bool.not_eq_false', reduceCtorEq, w_ixT (at_door eg), take_self]
    unfold stepP
    rw [eg]
    rfl
def goalB : List S := [.asg (.nm 3) (.idx (.idx (.var 0) (.var 1)) (.cst (.int 1))), .ife (.orr (.cmp .lt (.var 2) (.cst (.int 0))) (.cmp .ge (.var 2) (.blt .len [(.var 3)]))) [.ret (.cst .non)] [], .ret (.idx (.var 3) (.var 2))]
theorem goal_e (is : Is FT f 3 4 goalB) {t : List Pl} {k g : Nat} {p : Pl} (e : t[k]? = some p) : cal FT (d + 1) f [.d (townD t), .d (.int k), .d (.int g)] h = some (.d (oN (stepP p g)), h) := by
  refine eq_of_wp (is.call rfl ?_)
  unfold goalB
  simp only [Pe.Pw.ws, List.set_cons_zero, List.set_cons_succ, List.length_cons, List.length_nil, List.map_cons, List.map_nil, List.cons_append, List.nil_append, List.replicate_succ, List.replicate_zero, Nat.reduceSub, Nat.reduceAdd, Nat.reduceLT, true_and, and_true, if_true, Bool.false_eq_true, if_false, true_implies, false_implies, forall_const, decide_eq_true_eq, decide_eq_false_iff_not, Bool.not_eq_true', Bool.not_eq_false', reduceCtorEq, w_ixT (at_pl e), w_ixT a2_1, take_self, List.length_map]
  refine ⟨fun z => by omega, fun _ => ⟨fun z => ?_, fun z => ?_⟩⟩
  · unfold stepP
    rw [List.getElem?_eq_none (by omega)]
    rfl
  · have hg : g < p.2.length := by omega
    have eg : p.2[g]? = some p.2[g] := List.getElem?_eq_getElem hg
    simp only [Pe.Pw.ws, List.set_cons_zero, List.set_cons_succ, List.length_cons, List.length_nil, List.map_cons, List.map_nil, List.cons_append, List.nil_append, List.replicate_succ, List.replicate_zero, Nat.reduceSub, Nat.reduceAdd, Nat.reduceLT, true_and, and_true, if_true, Bool.false_eq_true, if_false, true_implies, false_implies, forall_const, decide_eq_true_eq, decide_eq_false_iff_not, Bool.not_eq_true', Bool.not_eq_false', reduceCtorEq, w_ixT (at_door eg), take_self]
    unfold stepP
    rw [eg]
    rfl
/-- led_to (by step_from), _law_end (by _law_goal) -/
def ledB (st : Nat) : List S := [.asg (.nm 3) (.var 1), .fr (.nm 4) (.seq (.var 2)) [.asg (.nm 3) (.call st [(.var 0), (.var 3), (.var 4)]), .ife (.cmp .isN (.var 3) (.cst .non)) [.ret (.cst .non)] []], .ret (.var 3)]
theorem led_e {st : Nat} (is : Is FT f 3 5 (ledB st)) {t : List Pl} (one : ∀ (h : Hs) (k g : Nat) (p : Pl), t[k]? = some p → cal FT (d + 1) st [.d (townD t), .d (.int k), .d (.int g)] h = some (.d (oN (stepP p g)), h)) (ok : TownOk t) {k : Nat} {w : List Nat} (hk : k < t.length) :
    cal FT (d + 2) f [.d (townD t), .d (.int k), .d (walkD w)] h = some (.d (oN (endP t k w)), h) := by
  refine eq_of_wp (is.call rfl ?_)
  unfold ledB
  simp only [Pe.Pw.ws, List.set_cons_zero, List.set_cons_succ, List.length_cons, List.length_nil, List.map_cons, List.map_nil, List.cons_append, List.nil_append, List.replicate_succ, List.replicate_zero, Nat.reduceSub, Nat.reduceAdd, Nat.reduceLT, true_and, and_true, if_true, Bool.false_eq_true, if_false, true_implies, false_implies, forall_const, decide_eq_true_eq, decide_eq_false_iff_not, Bool.not_eq_true', Bool.not_eq_false', reduceCtorEq]
  refine w_forT w (fun x => D.int ((x : Nat) : Int)) (fun i e hh => ∃ (now : Nat) (e4 : Option PV), endP t k (w.take i) = some now ∧ now < t.length ∧ e = [some (.d (townD t)), some (.d (.int k)), some (.d (walkD w)), some (.d (.int now)), e4] ∧ hh = h) ⟨k, none, rfl, hk, rfl, rfl⟩ (fun i e hh x ex p => ?_) fun e hh p => ?_
  · obtain ⟨now, e4, e1, l1, rfl, rfl⟩ := p
    have en : t[now]? = some t[now] := List.getElem?_eq_getElem l1
    have hi := (List.getElem?_eq_some_iff.mp ex).1
    simp only [Pe.Pw.ws, List.set_cons_zero, List.set_cons_succ, List.length_cons, List.length_nil, List.map_cons, List.map_nil, List.cons_append, List.nil_append, List.replicate_succ, List.replicate_zero, Nat.reduceSub, Nat.reduceAdd, Nat.reduceLT, true_and, and_true, if_true, Bool.false_eq_true, if_false, true_implies, false_implies, forall_const, decide_eq_true_eq, decide_eq_false_iff_not, Bool.not_eq_true', Bool.not_eq_false', reduceCtorEq, w_iff (one _ _ _ _ en)]
    cases q : stepP t[now] x with
    | none =>
      simp only [Pe.Pw.ws, List.set_cons_zero, List.set_cons_succ, List.length_cons, List.length_nil, List.map_cons, List.map_nil, List.cons_append, List.nil_append, List.replicate_succ, List.replicate_zero, Nat.reduceSub, Nat.reduceAdd, Nat.reduceLT, true_and, and_true, if_true, Bool.false_eq_true, if_false, true_implies, false_implies, forall_const, decide_eq_true_eq, decide_eq_false_iff_not, Bool.not_eq_true', Bool.not_eq_false', reduceCtorEq, oN, isNon, take_self]
      have : w = w.take i ++ x :: w.drop (i + 1) := by
        have := List.take_append_drop i w
        rw [List.drop_eq_getElem_cons hi] at this
        rw [(List.getElem?_eq_some_iff.mp ex).2] at this
        exact this.symm
      rw [this, endP_none _ _ _ e1 (by rw [endP_one en]; exact q)]
    | some g =>
      simp only [Pe.Pw.ws, List.set_cons_zero, List.set_cons_succ, List.length_cons, List.length_nil, List.map_cons, List.map_nil, List.cons_append, List.nil_append, List.replicate_succ, List.replicate_zero, Nat.reduceSub, Nat.reduceAdd, Nat.reduceLT, true_and, and_true, if_true, Bool.false_eq_true, if_false, true_implies, false_implies, forall_const, decide_eq_true_eq, decide_eq_false_iff_not, Bool.not_eq_true', Bool.not_eq_false', reduceCtorEq, oN, isNon]
      refine ⟨g, _, ?_, ok.goals _ (List.getElem_mem l1) g (stepP_mem q), rfl⟩
      rw [List.take_add_one, ex, Option.toList_some, endP_snoc _ _ _ e1, endP_one en]
      exact q
  · obtain ⟨now, e4, e1, l1, rfl, rfl⟩ := p
    rw [List.take_length] at e1
    simp only [Pe.Pw.ws, List.set_cons_zero, List.set_cons_succ, List.length_cons, List.length_nil, List.map_cons, List.map_nil, List.cons_append, List.nil_append, List.replicate_succ, List.replicate_zero, Nat.reduceSub, Nat.reduceAdd, Nat.reduceLT, true_and, and_true, if_true, Bool.false_eq_true, if_false, true_implies, false_implies, forall_const, decide_eq_true_eq, decide_eq_false_iff_not, Bool.not_eq_true', Bool.not_eq_false', reduceCtorEq, take_self]
    rw [e1]
    rfl
end
end Pe.Pw
/-! Pe: towns: what walks show. -/
namespace Pe.Pw
open PySem
def sightAt (t : List Pl) (k : Nat) (w : List Nat) : D := match endP t k w with
  | some g => match t[g]? with
    | some p => sight p
    | none => .non
  | none => .non
def showsP (t : List Pl) (k : Nat) (w : List Nat) : D := match endP t k w with
  | some _ => .tup ((List.range (w.length + 1)).map fun j => sightAt t k (w.take j))
  | none => .non
theorem sightAt_eq {t : List Pl} {k g : Nat} {w : List Nat} {p : Pl} (e : endP t k w = some g) (e2 : t[g]? = some p) : sightAt t k w = sight p := by
  unfold sightAt
  rw [e]
  dsimp only
  rw [e2]
theorem endP_lt {t : List Pl} (ok : TownOk t) : ∀ (w : List Nat) (k g : Nat), k < t.length → endP t k w = some g → g < t.length
  | [], k, g, hk, e => by cases e; exact hk
  | x :: w, k, g, hk, e => by
    have ek : t[k]? = some t[k] := List.getElem?_eq_getElem hk
    unfold endP at e
    rw [ek] at e
    dsimp only at e
    split at e
    · rename_i g2 q
      exact endP_lt ok w g2 g (ok.goals _ (List.getElem_mem hk) g2 (stepP_mem q)) e
    · cases e
theorem endP_take {t : List Pl} : ∀ (w : List Nat) (k g : Nat) (j : Nat), endP t k w = some g → ∃ g', endP t k (w.take j) = some g'
  | [], k, g, j, e => ⟨k, by simp [endP]⟩
  | x :: w, k, g, 0, e => ⟨k, rfl⟩
  | x :: w, k, g, j + 1, e => by
    rw [List.take_succ_cons]
    unfold endP at e ⊢
    split at e
    · split at e
      · exact endP_take w _ g j e
      · cases e
    · cases e
section
variable {FT : List Fn} {h : Hs} {Q : PV → Hs → Prop} {n d f : Nat}
def alongB (st si : Nat) : List S := [.asg (.nm 3) (.var 1), .asg (.nm 4) (.lst [(.call si [(.var 0), (.var 3)])]), .fr (.nm 5) (.seq (.var 2)) [.asg (.nm 3) (.call st [(.var 0), (.var 3), (.var 5)]), .ife (.cmp .isN (.var 3) (.cst .non)) [.ret (.cst .non)] [], .ex (.mth .append (.var 4) [(.call si [(.var 0), (.var 3)])])], .ret (.blt .tuple [(.var 4)])]
theorem along_e {st si : Nat} (is : Is FT f 3 6 (alongB st si)) (i1 : Is FT st 3 4 stepB) (i2 : Is FT si 2 5 sightB) {t : List Pl} (ok : TownOk t) {k : Nat} {w : List Nat} (hk : k < t.length) (hw : w.length ≤ 100000) :
    cal FT (d + 2) f [.d (townD t), .d (.int k), .d (walkD w)] h = some (.d (showsP t k w), h) := by
  refine eq_of_wp (is.call rfl ?_)
  unfold alongB
  have hz : sizeLine = 2 ^ 24 := rfl
  have ek : t[k]? = some t[k] := List.getElem?_eq_getElem hk
  simp only [Pe.Pw.ws, List.set_cons_zero, List.set_cons_succ, List.length_cons, List.length_nil, List.map_cons, List.map_nil, List.cons_append, List.nil_append, List.replicate_succ, List.replicate_zero, Nat.reduceSub, Nat.reduceAdd, Nat.reduceLT, true_and, and_true, if_true, Bool.false_eq_true, if_false, true_implies, false_implies, forall_const, decide_eq_true_eq, decide_eq_false_iff_not, Bool.not_eq_true', Bool.not_eq_false', reduceCtorEq, w_iff (sight_e i2 ok ek)]
  have s0 : (List.range (0 + 1)).map (fun j => sightAt t k (w.take j)) = [sight t[k]] := by
    show [sightAt t k (w.take 0)] = _
    rw [sightAt_eq (w := w.take 0) (g := k) rfl ek]
  rw [show [PV.d (sight t[k])] = [sight t[k]].map PV.d from rfl, conv_tld]
  refine ⟨(sz : 1 ≤ sizeLine), ?_⟩
  refine w_forT w (fun x => D.int ((x : Nat) : Int)) (fun i e hh => ∃ (now : Nat) (e5 : Option PV), endP t k (w.take i) = some now ∧ now < t.length ∧ e = [some (.d (townD t)), some (.d (.int k)), some (.d (walkD w)), some (.d (.int now)), some (.ref h.length), e5] ∧
    hh = h ++ [.lst (((List.range (i + 1)).map fun j => sightAt t k (w.take j)).map .d)]) ⟨k, none, rfl, hk, rfl, by rw [s0]⟩ (fun i e hh x ex p => ?_) fun e hh p => ?_
  · obtain ⟨now, e5, e1, l1, rfl, rfl⟩ := p
    have en : t[now]? = some t[now] := List.getElem?_eq_getElem l1
    have hi := (List.getElem?_eq_some_iff.mp ex).1
    simp only [Pe.Pw.ws, List.set_cons_zero, List.set_cons_succ, List.length_cons, List.length_nil, List.map_cons, List.map_nil, List.cons_append, List.nil_append, List.replicate_succ, List.replicate_zero, Nat.reduceSub, Nat.reduceAdd, Nat.reduceLT, true_and, and_true, if_true, Bool.false_eq_true, if_false, true_implies, false_implies, forall_const, decide_eq_true_eq, decide_eq_false_iff_not, Bool.not_eq_true', Bool.not_eq_false', reduceCtorEq, w_iff (step_e i1 en)]
    cases q : stepP t[now] x with
    | none =>
      simp only [Pe.Pw.ws, List.set_cons_zero, List.set_cons_succ, List.length_cons, List.length_nil, List.map_cons, List.map_nil, List.cons_append, List.nil_append, List.replicate_succ, List.replicate_zero, Nat.reduceSub, Nat.reduceAdd, Nat.reduceLT, true_and, and_true, if_true, Bool.false_eq_true, if_false, true_implies, false_implies, forall_const, decide_eq_true_eq, decide_eq_false_iff_not, Bool.not_eq_true', Bool.not_eq_false', reduceCtorEq, oN, isNon, List.take_left]
      have ew : w = w.take i ++ x :: w.drop (i + 1) := by
        have := List.take_append_drop i w
        rw [List.drop_eq_getElem_cons hi] at this
        rw [(List.getElem?_eq_some_iff.mp ex).2] at this
        exact this.symm
      unfold showsP
      rw [show endP t k w = none by rw [ew]; exact endP_none _ _ _ e1 (by rw [endP_one en]; exact q)]
    | some g =>
      have hg := ok.goals _ (List.getElem_mem l1) g (stepP_mem q)
      have eg : t[g]? = some t[g] := List.getElem?_eq_getElem hg
      have e2 : endP t k (w.take (i + 1)) = some g := by
        rw [List.take_add_one, ex, Option.toList_some, endP_snoc _ _ _ e1, endP_one en]
        exact q
      simp only [Pe.Pw.ws, List.set_cons_zero, List.set_cons_succ, List.length_cons, List.length_nil, List.map_cons, List.map_nil, List.cons_append, List.nil_append, List.replicate_succ, List.replicate_zero, Nat.reduceSub, Nat.reduceAdd, Nat.reduceLT, true_and, and_true, if_true, Bool.false_eq_true, if_false, true_implies, false_implies, forall_const, decide_eq_true_eq, decide_eq_false_iff_not, Bool.not_eq_true', Bool.not_eq_false', reduceCtorEq, oN, isNon, w_iff (sight_e i2 ok eg), w_app0, List.length_map, List.length_range]
      refine ⟨by omega, g, _, e2, hg, rfl, ?_⟩
      rw [List.range_succ (n := i + 1), List.map_append, List.map_append, List.map_cons, List.map_nil, List.map_cons, List.map_nil, sightAt_eq e2 eg]
  · obtain ⟨now, e5, e1, l1, rfl, rfl⟩ := p
    rw [List.take_length] at e1
    simp only [Pe.Pw.ws, List.set_cons_zero, List.set_cons_succ, List.length_cons, List.length_nil, List.map_cons, List.map_nil, List.cons_append, List.nil_append, List.replicate_succ, List.replicate_zero, Nat.reduceSub, Nat.reduceAdd, Nat.reduceLT, true_and, and_true, if_true, Bool.false_eq_true, if_false, true_implies, false_implies, forall_const, decide_eq_true_eq, decide_eq_false_iff_not, Bool.not_eq_true', Bool.not_eq_false', reduceCtorEq, w_tup0]
    rw [mkTup_ds, lv_d, List.take_left]
    unfold showsP
    rw [e1]
    exact ⟨rfl, rfl⟩
def showsB (en si : Nat) : List S := [.ife (.cmp .isN (.call en [(.var 0), (.var 1), (.var 2)]) (.cst .non)) [.ret (.cst .non)] [], .ret (.blt .tuple [(.comp [3] (.nm 3) (.rng1 (.bin .add (.blt .len [(.var 2)]) (.cst (.int 1)))) false (.cst (.bl true)) (.call si [(.var 0), (.call en [(.var 0), (.var 1), (.slc false true (.var 2) (.cst .non) (.var 3))])]))])]
theorem shows_e {en si : Nat} (is : Is FT f 3 4 (showsB en si)) (i2 : Is FT si 2 5 sightB) {t : List Pl} (ok : TownOk t) (end_e : ∀ (h : Hs) (k : Nat) (w : List Nat), k < t.length → cal FT (d + 3) en [.d (townD t), .d (.int k), .d (walkD w)] h = some (.d (oN (endP t k w)), h))
    {k : Nat} {w : List Nat} (hk : k < t.length) (hw : w.length ≤ 100000) : cal FT (d + 4) f [.d (townD t), .d (.int k), .d (walkD w)] h = some (.d (showsP t k w), h) := by
  refine eq_of_wp (is.call rfl ?_)
  unfold showsB
  have hz : sizeLine = 2 ^ 24 := rfl
  simp only [Pe.Pw.ws, List.set_cons_zero, List.set_cons_succ, List.length_cons, List.length_nil, List.map_cons, List.map_nil, List.cons_append, List.nil_append, List.replicate_succ, List.replicate_zero, Nat.reduceSub, Nat.reduceAdd, Nat.reduceLT, true_and, and_true, if_true, Bool.false_eq_true, if_false, true_implies, false_implies, forall_const, decide_eq_true_eq, decide_eq_false_iff_not, Bool.not_eq_true', Bool.not_eq_false', reduceCtorEq, w_iff (end_e _ _ _ hk), List.length_map]
  cases q : endP t k w with
  | none =>
    simp only [Pe.Pw.ws, List.set_cons_zero, List.set_cons_succ, List.length_cons, List.length_nil, List.map_cons, List.map_nil, List.cons_append, List.nil_append, List.replicate_succ, List.replicate_zero, Nat.reduceSub, Nat.reduceAdd, Nat.reduceLT, true_and, and_true, if_true, Bool.false_eq_true, if_false, true_implies, false_implies, forall_const, decide_eq_true_eq, decide_eq_false_iff_not, Bool.not_eq_true', Bool.not_eq_false', reduceCtorEq, oN, isNon, take_self]
    unfold showsP
    rw [q]
  | some g =>
    simp only [Pe.Pw.ws, List.set_cons_zero, List.set_cons_succ, List.length_cons, List.length_nil, List.map_cons, List.map_nil, List.cons_append, List.nil_append, List.replicate_succ, List.replicate_zero, Nat.reduceSub, Nat.reduceAdd, Nat.reduceLT, true_and, and_true, if_true, Bool.false_eq_true, if_false, true_implies, false_implies, forall_const, decide_eq_true_eq, decide_eq_false_iff_not, Bool.not_eq_true', Bool.not_eq_false', reduceCtorEq, oN, isNon]
    refine ⟨by omega, ?_⟩
    rw [show ((w.length : Int) + 1 - 0).toNat = w.length + 1 by omega]
    refine w_clN (fun i acc hh => hh = h ∧ acc = ((List.range i).map fun j => sightAt t k (w.take j)).map PV.d) ⟨rfl, rfl⟩ (fun i acc hh hi p => ?_) fun acc hh p => ?_
    · obtain ⟨rfl, rfl⟩ := p
      obtain ⟨g', eg⟩ := endP_take w k g i q
      have lg := endP_lt ok _ _ _ hk eg
      have e2 : t[g']? = some t[g'] := List.getElem?_eq_getElem lg
      simp only [Pe.Pw.ws, List.set_cons_zero, List.set_cons_succ, List.length_cons, List.length_nil, List.map_cons, List.map_nil, List.cons_append, List.nil_append, List.replicate_succ, List.replicate_zero, Nat.reduceSub, Nat.reduceAdd, Nat.reduceLT, true_and, and_true, if_true, Bool.false_eq_true, if_false, true_implies, false_implies, forall_const, decide_eq_true_eq, decide_eq_false_iff_not, Bool.not_eq_true', Bool.not_eq_false', reduceCtorEq]
      rw [Int.zero_add, cut_hi, ← List.map_take]
      simp only [Pe.Pw.ws, List.set_cons_zero, List.set_cons_succ, List.length_cons, List.length_nil, List.map_cons, List.map_nil, List.cons_append, List.nil_append, List.replicate_succ, List.replicate_zero, Nat.reduceSub, Nat.reduceAdd, Nat.reduceLT, true_and, and_true, if_true, Bool.false_eq_true, if_false, true_implies, false_implies, forall_const, decide_eq_true_eq, decide_eq_false_iff_not, Bool.not_eq_true', Bool.not_eq_false', reduceCtorEq, w_iff (end_e _ _ _ hk)]
      rw [eg]
      simp only [Pe.Pw.ws, List.set_cons_zero, List.set_cons_succ, List.length_cons, List.length_nil, List.map_cons, List.map_nil, List.cons_append, List.nil_append, List.replicate_succ, List.replicate_zero, Nat.reduceSub, Nat.reduceAdd, Nat.reduceLT, true_and, and_true, if_true, Bool.false_eq_true, if_false, true_implies, false_implies, forall_const, decide_eq_true_eq, decide_eq_false_iff_not, Bool.not_eq_true', Bool.not_eq_false', reduceCtorEq, oN, w_iff (sight_e i2 ok e2)]
      refine ⟨⟨rfl, ?_⟩, ?_⟩
      · rw [List.range_succ, List.map_append, List.map_append, List.map_cons, List.map_nil, List.map_cons, List.map_nil, sightAt_eq eg e2]
      · rw [List.length_map, List.length_map, List.length_range]
        omega
    · obtain ⟨rfl, rfl⟩ := p
      rw [mkTup_ds, lv_d, take_self]
      unfold showsP
      rw [q]
      exact ⟨rfl, rfl⟩
end
end Pe.Pw
/-! Pe: drawn words. -/
namespace Pe.Pw
open PySem
/-- a text of plain signs, no longer than m -/
def SOk (m : Nat) (s : Str) : Prop := PyData.strOk s = true ∧ s.length ≤ m
theorem SOk.mono {m k : Nat} {s : Str} (a : SOk m s) (h : m ≤ k) : SOk k s := ⟨a.1, Nat.le_trans a.2 h⟩
def AOk (m : Nat) (a : Array Nat) : Prop := a.all (· < 0x110000) = true ∧ a.size ≤ m
theorem AOk.app {m k : Nat} {a b : Array Nat} (x : AOk m a) (y : AOk k b) : AOk (m + k) (a ++ b) := by
  refine ⟨?_, ?_⟩
  · rw [Array.all_append, x.1, y.1]
    rfl
  · rw [Array.size_append]
    have := x.2
    have := y.2
    omega
theorem join_ok {m : Nat} : ∀ (ys : List Str), (∀ y ∈ ys, SOk m y) → SOk (m * ys.length) (Txt.join (Str.ofString "") ys) := by
  have key : ∀ (r : List Str) (k : Nat) (acc : Array Nat), AOk k acc → (∀ y ∈ r, SOk m y) → AOk (k + m * r.length) (r.foldl (fun acc p => acc ++ (Str.ofString "").cps ++ p.cps) acc) := by
    intro r
    induction r with
    | nil => intro k acc a _; exact ⟨a.1, by have := a.2; simp only [List.foldl_nil, List.length_nil, Nat.mul_zero]; omega⟩
    | cons y r ih =>
      intro k acc a hr
      rw [List.foldl_cons, List.length_cons]
      have e : AOk 0 (Str.ofString "").cps := ⟨by decide +kernel, by decide +kernel⟩
      have := ih (k + 0 + m) _ ((a.app e).app (hr y List.mem_cons_self)) fun z hz => hr z (List.mem_cons_of_mem _ hz)
      refine ⟨this.1, ?_⟩
      have h2 := this.2
      rw [Nat.mul_succ]
      omega
  intro ys hy
  cases ys with
  | nil =>
    have e : (Txt.join (Str.ofString "") []).length = 0 := by decide +kernel
    exact ⟨by decide +kernel, by rw [e]; exact Nat.zero_le _⟩
  | cons y r =>
    have := key r m y.cps (hy y List.mem_cons_self) fun z hz => hy z (List.mem_cons_of_mem _ hz)
    refine ⟨this.1, ?_⟩
    have h2 := this.2
    rw [List.length_cons, Nat.mul_succ]
    show ((r.foldl (fun acc p => acc ++ (Str.ofString "").cps ++ p.cps) y.cps)).size ≤ _
    omega
theorem rep_ok {m n : Nat} {s : Str} (a : SOk m s) : SOk (m * n) (repS s n) := by
  have key : ∀ (n k : Nat) (acc : Array Nat), AOk k acc → AOk (k + m * n) ((List.replicate n s.cps).foldl (· ++ ·) acc) := by
    intro n
    induction n with
    | zero => intro k acc a; exact a
    | succ n ih =>
      intro k acc x
      rw [List.replicate_succ, List.foldl_cons]
      have := ih (k + m) _ (x.app a)
      refine ⟨this.1, ?_⟩
      have h2 := this.2
      rw [Nat.mul_succ]
      omega
  have := key n 0 #[] ⟨by decide +kernel, Nat.le_refl _⟩
  refine ⟨this.1, ?_⟩
  have h2 := this.2
  show ((List.replicate n s.cps).foldl (· ++ ·) #[]).size ≤ _
  omega
abbrev sD (s : Str) : D := .str s
section
variable {FT : List Fn} {h : Hs} {Q : PV → Hs → Prop} {n d f : Nat}
theorem strsOf_map (ws : List Str) : strsOf (ws.map fun s => PV.d (.str s)) = some ws := by
  induction ws with
  | nil => rfl
  | cons w ws ih =>
    show (match strsOf (ws.map fun s => PV.d (.str s)) with
      | some bs => some (w :: bs)
      | none => none) = _
    rw [ih]
theorem w_joinL {s : Str} {ws : List Str} (z : (ws.map fun y : Str => y.length).sum + ws.length * s.length ≤ 16777216) : Wp (joinV (.d (.str s)) (.tl (ws.map fun s => PV.d (.str s)))) h Q ↔ Q (.d (.str (Txt.join s ws))) h := by
  refine w_iff ?_
  show (match strsOf (ws.map fun s => PV.d (.str s)) with
      | some ys => if (ys.map fun y : Str => y.length).sum + ys.length * s.length ≤ 16777216 then some (PV.d (.str (Txt.join s ys)), h) else none
      | none => none) = _
  rw [strsOf_map]
  dsimp only
  rw [if_pos z]
theorem w_join {cf : Nat → List PV → M PV} {fb : Nat} {env : Env} {o a : E} : Wp (evE cf fb (.join o a) env) h Q ↔ Wp (evE cf fb o env) h fun x h => Wp (evE cf fb a env) h fun y h => Wp (joinV x y) h Q := by
  have e : evE cf fb (.join o a) env = M.bnd (evE cf fb o env) fun x => M.bnd (evE cf fb a env) fun y => joinV x y := rfl
  rw [e]
  simp only [w_bnd]
theorem w_ixS {s : Str} {k : Int} {c : Nat} (z : s.length ≤ sizeLine) (e : L2.atI s.cps.toList k = some c) : Wp (idxV (.d (.str s)) (.d (.int k))) h Q ↔ Q (.d (.str ⟨#[c]⟩)) h := by
  refine w_iff ?_
  show (if s.length ≤ sizeLine then (L2.atI s.cps.toList k).map fun c => (PV.d (.str ⟨#[c]⟩), h) else none) = _
  rw [if_pos z, e]
  rfl
theorem w_maxL {m : Int} {ns : List Int} : Wp (bltV .max [.tl (I m :: ns.map I)]) h Q ↔ Q (.d (.int (maxI m ns))) h := by
  refine w_iff ?_
  show (match intsOf (I m :: ns.map I) with
    | some (n :: ns) => some (PV.d (.int (maxI n ns)), h)
    | _ => none) = _
  rw [show I m :: ns.map I = ((m :: ns).map fun b => PV.d (.int b)) from rfl, intsOf_map]
theorem w_lenS {s : Str} (z : s.length ≤ sizeLine) : Wp (bltV .len [.d (.str s)]) h Q ↔ Q (.d (.int s.length)) h := by
  refine w_iff ?_
  show (if s.length ≤ sizeLine then some (PV.d (.int s.length), h) else none) = _
  rw [if_pos z]
theorem w_mulS {s : Str} {k : Int} : Wp (binV .mul (.d (.str s)) (.d (.int k))) h Q ↔ (2 ≤ k ∧ k ≤ 1000000 ∧ 0 < s.length ∧ s.length * k.toNat ≤ 1000000) ∧ Q (.d (.str (repS s k.toNat))) h := wp_cond rfl
theorem strs_py (g : Nat → Option PyData) (ws : List Str) : toPysG g (ws.map fun s => PV.d (.str s)) = some (ws.map PyData.str) := by
  induction ws with
  | nil => rfl
  | cons b bs ih =>
    show (match toPyG g (.d (.str b)), toPysG g (bs.map fun s => PV.d (.str s)) with
      | some y, some ys => some (y :: ys)
      | _, _ => none) = _
    rw [ih]
    rfl
theorem strs_sh {m : Nat} (ws : List Str) (hw : ∀ w ∈ ws, SOk m w) : SeqAt.shaped (.list (ws.map PyData.str)) = true := by
  have a : PyData.canLayAll0 (ws.map PyData.str) = true ∧ PyData.depthAll (ws.map PyData.str) = 0 := by
    induction ws with
    | nil => exact ⟨rfl, rfl⟩
    | cons b bs ih =>
      have i := ih fun w h => hw w (List.mem_cons_of_mem _ h)
      have b1 := (hw b List.mem_cons_self).1
      simp [PyData.canLayAll0, PyData.depthAll, PyData.canLay0, PyData.depth, i, b1]
  unfold SeqAt.shaped
  simp [PyData.canLay0, PyData.depth, a]
/-- some word is asked for among words that lie in a cell -/
theorem w_innS {m c : Nat} {w : Str} {ws : List Str} {R : Bool → Hs → Prop} (e : h[c]? = some (.lst (ws.map fun s => PV.d (.str s)))) (hw : ∀ w ∈ ws, SOk m w) (ok : SOk m w) (r : ∀ b, R b h) : Wp (cmpV .inn (.d (.str w)) (.ref c)) h R := by
  have e1 : toPy h (.ref c) = some (.list (ws.map PyData.str)) := by
    show (match h[c]? with
      | some (.lst xs) => match toPysG (pyR h 3) xs with
        | some ys => some (PyData.list ys)
        | none => none
      | none => none) = _
    rw [e]
    dsimp only
    rw [strs_py]
  have e2 : inV (.d (.str w)) (.ref c) h = some ((ws.map PyData.str).any fun z => PyData.eqv z (.str w)) := by
    show (match some (PyData.str w), toPy h (.ref c) with
      | some a, some (.list ds) => if SeqAt.shaped a && SeqAt.shaped (.list ds) then some (ds.any fun z => PyData.eqv z a) else none
      | some a, some (.tuple ds) => if SeqAt.shaped a && SeqAt.shaped (.tuple ds) then some (ds.any fun z => PyData.eqv z a) else none
      | _, _ => none) = _
    rw [e1]
    dsimp only
    rw [strs_sh ws hw, show SeqAt.shaped (.str w) = true by simp [SeqAt.shaped, PyData.canLay0, PyData.depth, ok.1]]
    rfl
  refine wp_eq (a := (ws.map PyData.str).any fun z => PyData.eqv z (.str w)) (h1 := h) ?_ (r _)
  show (inV (.d (.str w)) (.ref c) h).map (fun b => (b, h)) = _
  rw [e2]
  rfl
def wordsB (tk : Nat) : List S := [.asg (.nm 2) (.lst []), .fr (.nm 3) (.rng1 (.var 1)) [.asg (.nm 4) (.bin .add (.cst (.int 1)) (.call tk [(.var 0), (.cst (.int 3))])), .ife (.cmp .eq (.call tk [(.var 0), (.cst (.int 9))]) (.cst (.int 0))) [.asg (.nm 4) (.bin .add (.bin .add (.var 4) (.cst (.int 3))) (.call tk [(.var 0), (.cst (.int 20))]))] [], .asg (.nm 5) (.join (.cst (.str (Str.ofString ""))) (.comp [6] (.nm 6) (.rng1 (.var 4)) false (.cst (.bl true)) (.idx (.cst (.str (Str.ofString "abcdefghijklmnopqrstuvwxyz"))) (.call tk [(.var 0), (.cst (.int 26))])))), .ife (.cmp .inn (.var 5) (.var 2)) [.asg (.nm 5) (.bin .mul (.cst (.str (Str.ofString "z"))) (.bin .add (.cst (.int 1)) (.blt .max [(.bin .add (.lst [(.cst (.int 5))]) (.comp [7] (.nm 7) (.seq (.var 2)) false (.cst (.bl true)) (.blt .len [(.var 7)])))])))] [], .ex (.mth .append (.var 2) [(.var 5)])], .ret (.var 2)]
theorem letter {k : Int} (h0 : 0 ≤ k) (h1 : k < 26) : ∃ c, L2.atI (Str.ofString "abcdefghijklmnopqrstuvwxyz").cps.toList k = some c ∧ c < 0x110000 := by
  have hl : (Str.ofString "abcdefghijklmnopqrstuvwxyz").cps.toList.length = 26 := by decide +kernel
  obtain ⟨c, e, hc⟩ := atI_lt (xs := (Str.ofString "abcdefghijklmnopqrstuvwxyz").cps.toList) h0 (by rw [hl]; exact h1)
  have : ∀ c ∈ (Str.ofString "abcdefghijklmnopqrstuvwxyz").cps.toList, c < 0x110000 := by decide +kernel
  exact ⟨c, e, this c hc⟩
theorem one_ok {c : Nat} (h : c < 0x110000) : SOk 1 ⟨#[c]⟩ := ⟨by simp [PyData.strOk, h], Nat.le_refl _⟩
/-- the invariant of words at the i-th turn, between the statements of a turn -/
def WInv (n : Nat) (h : Hs) (many i : Nat) (e3 e4 e5 e6 e7 : Option PV) (e : Env) (hh : Hs) (h' : Hs) (ws : List Str) : Prop :=
  ws.length = i ∧ (∀ w ∈ ws, SOk (30 + i) w) ∧ Dn n h h' ∧ e = [some (.ref n), some (.d (.int many)), some (.ref h.length), e3, e4, e5, e6, e7] ∧ hh = h' ++ [.lst (ws.map fun s => PV.d (.str s))]
theorem words_w {tk : Nat} (is : Is FT f 2 8 (wordsB tk)) (it : Is FT tk 2 2 takeB) {many : Nat} (hm : many ≤ 1000) (a : Dr n h) (q : ∀ (ws : List Str) h1, ws.length = many → (∀ w ∈ ws, SOk 2000 w) → Dn n h h1 → Q (.tl (ws.map fun s => PV.d (.str s))) h1) :
    Wp (cal FT (d + 2) f [.ref n, .d (.int many)]) h Q := by
  refine is.call rfl ?_
  unfold wordsB
  have hz : sizeLine = 2 ^ 24 := rfl
  have hn := a.lt
  simp only [Pe.Pw.ws, List.set_cons_zero, List.set_cons_succ, List.length_cons, List.length_nil, List.map_cons, List.map_nil, List.cons_append, List.nil_append, List.replicate_succ, List.replicate_zero, Nat.reduceSub, Nat.reduceAdd, Nat.reduceLT, true_and, and_true, if_true, Bool.false_eq_true, if_false, true_implies, false_implies, forall_const, decide_eq_true_eq, decide_eq_false_iff_not, Bool.not_eq_true', Bool.not_eq_false', reduceCtorEq]
  refine ⟨sz, by omega, ?_⟩
  rw [show ((many : Int) - 0).toNat = many by omega]
  refine w_forN (fun i e hh => ∃ e3 e4 e5 e6 e7 h' ws, WInv n h many i e3 e4 e5 e6 e7 e hh h' ws) ⟨_, _, _, _, _, h, [], rfl, fun w hw => absurd hw List.not_mem_nil, .refl a, rfl, rfl⟩ (fun i e hh hi p => ?_) fun e hh p => ?_
  · obtain ⟨e3, e4, e5, e6, e7, h', ws, rfl, hws, b, rfl, rfl⟩ := p
    -- from here on the size is what matters
    have rest : ∀ (m : Nat) (h2 : Hs), Dn n h h2 → 1 ≤ m → m ≤ 30 → Wp (evSs (cal FT (d + 1)) h.length [.asg (.nm 5) (.join (.cst (.str (Str.ofString ""))) (.comp [6] (.nm 6) (.rng1 (.var 4)) false (.cst (.bl true)) (.idx (.cst (.str (Str.ofString "abcdefghijklmnopqrstuvwxyz"))) (.call tk [(.var 0), (.cst (.int 26))])))), .ife (.cmp .inn (.var 5) (.var 2)) [.asg (.nm 5) (.bin .mul (.cst (.str (Str.ofString "z"))) (.bin .add (.cst (.int 1)) (.blt .max [(.bin .add (.lst [(.cst (.int 5))]) (.comp [7] (.nm 7) (.seq (.var 2)) false (.cst (.bl true)) (.blt .len [(.var 7)])))])))] [], .ex (.mth .append (.var 2) [(.var 5)])]
        [some (.ref n), some (.d (.int many)), some (.ref h.length), some (.d (.int (0 + (ws.length : Int)))), some (.d (.int (m : Nat))), e5, e6, e7]) (h2 ++ [.lst (ws.map fun s => PV.d (.str s))])
        (FStep (fun e hh => ∃ e3 e4 e5 e6 e7 h' ws', WInv n h many (ws.length + 1) e3 e4 e5 e6 e7 e hh h' ws') (Thn (cal FT (d + 1)) h.length [.ret (.var 2)] (Lv h.length Q))) := by
      intro m h2 d2 m0 m1
      refine w_cut (fun e hh => ∃ (w : Str) (h3 : Hs), SOk 30 w ∧ Dn n h h3 ∧ e = [some (.ref n), some (.d (.int many)), some (.ref h.length), some (.d (.int (0 + (ws.length : Int)))), some (.d (.int (m : Nat))), some (.d (.str w)), e6, e7] ∧ hh = h3 ++ [.lst (ws.map fun s => PV.d (.str s))]) ?_ ?_
      · simp only [Pe.Pw.ws, List.set_cons_zero, List.set_cons_succ, List.length_cons, List.length_nil, List.map_cons, List.map_nil, List.cons_append, List.nil_append, List.replicate_succ, List.replicate_zero, Nat.reduceSub, Nat.reduceAdd, Nat.reduceLT, true_and, and_true, if_true, Bool.false_eq_true, if_false, true_implies, false_implies, forall_const, decide_eq_true_eq, decide_eq_false_iff_not, Bool.not_eq_true', Bool.not_eq_false', reduceCtorEq, w_join]
        refine ⟨by omega, ?_⟩
        rw [show ((m : Int) - 0).toNat = m by omega]
        refine w_clN (fun i acc hh => ∃ (ls : List Str) (h3 : Hs), ls.length = i ∧ (∀ l ∈ ls, SOk 1 l) ∧ acc = ls.map (fun s => PV.d (.str s)) ∧ Dn n h h3 ∧ hh = h3 ++ [.lst (ws.map fun s => PV.d (.str s))]) ⟨[], h2, rfl, fun l hl => absurd hl List.not_mem_nil, rfl, d2, rfl⟩ (fun i acc hh hi p => ?_) fun acc hh p => ?_
        · obtain ⟨ls, h3, rfl, hls, rfl, d3, rfl⟩ := p
          simp only [Pe.Pw.ws, List.set_cons_zero, List.set_cons_succ, List.length_cons, List.length_nil, List.map_cons, List.map_nil, List.cons_append, List.nil_append, List.replicate_succ, List.replicate_zero, Nat.reduceSub, Nat.reduceAdd, Nat.reduceLT, true_and, and_true, if_true, Bool.false_eq_true, if_false, true_implies, false_implies, forall_const, decide_eq_true_eq, decide_eq_false_iff_not, Bool.not_eq_true', Bool.not_eq_false', reduceCtorEq]
          refine take_w it (by decide) (d3.dr a).app fun k g4 k0 k1 b4 => ?_
          obtain ⟨h4, rfl, c4⟩ := b4.split (by rw [d3.len]; exact hn)
          obtain ⟨c, ec, hc⟩ := letter k0 k1
          simp only [Pe.Pw.ws, List.set_cons_zero, List.set_cons_succ, List.length_cons, List.length_nil, List.map_cons, List.map_nil, List.cons_append, List.nil_append, List.replicate_succ, List.replicate_zero, Nat.reduceSub, Nat.reduceAdd, Nat.reduceLT, true_and, and_true, if_true, Bool.false_eq_true, if_false, true_implies, false_implies, forall_const, decide_eq_true_eq, decide_eq_false_iff_not, Bool.not_eq_true', Bool.not_eq_false', reduceCtorEq, w_ixS (show (Str.ofString "abcdefghijklmnopqrstuvwxyz").length ≤ sizeLine by decide +kernel) ec]
          refine ⟨⟨ls ++ [⟨#[c]⟩], h4, by simp, fun l hl => ?_, by simp, d3.trans c4, rfl⟩, by simp; omega⟩
          rcases List.mem_append.mp hl with hl | hl
          · exact hls l hl
          · rw [List.mem_singleton.mp hl]; exact one_ok hc
        · obtain ⟨ls, h3, hl, hls, rfl, d3, rfl⟩ := p
          have s1 : ∀ (ls : List Str), (∀ l ∈ ls, SOk 1 l) → (ls.map fun y : Str => y.length).sum ≤ ls.length := by
            intro ls hls
            induction ls with
            | nil => exact Nat.le_refl _
            | cons y ls ih =>
              have := ih fun l hl => hls l (List.mem_cons_of_mem _ hl)
              have := (hls y List.mem_cons_self).2
              simp only [List.map_cons, List.sum_cons, List.length_cons]
              omega
          have s2 := s1 ls hls
          have e0 : (Str.ofString "").length = 0 := by decide +kernel
          rw [w_joinL (by rw [e0]; omega)]
          simp only [Pe.Pw.ws, List.set_cons_zero, List.set_cons_succ, List.length_cons, List.length_nil, List.map_cons, List.map_nil, List.cons_append, List.nil_append, List.replicate_succ, List.replicate_zero, Nat.reduceSub, Nat.reduceAdd, Nat.reduceLT, true_and, and_true, if_true, Bool.false_eq_true, if_false, true_implies, false_implies, forall_const, decide_eq_true_eq, decide_eq_false_iff_not, Bool.not_eq_true', Bool.not_eq_false', reduceCtorEq]
          exact ⟨_, h3, ((join_ok ls hls).mono (by omega)), d3, rfl, rfl⟩
      rintro _ _ ⟨w, h3, hw, d3, rfl, rfl⟩
      have hl3 := d3.len
      refine w_cut (fun e hh => ∃ (w : Str) (e7 : Option PV), SOk (30 + (ws.length + 1)) w ∧ e = [some (.ref n), some (.d (.int many)), some (.ref h.length), some (.d (.int (0 + (ws.length : Int)))), some (.d (.int (m : Nat))), some (.d (.str w)), e6, e7] ∧ hh = h3 ++ [.lst (ws.map fun s => PV.d (.str s))]) ?_ ?_
      · rw [← hl3]
        simp only [Pe.Pw.ws, List.set_cons_zero, List.set_cons_succ, List.length_cons, List.length_nil, List.map_cons, List.map_nil, List.cons_append, List.nil_append, List.replicate_succ, List.replicate_zero, Nat.reduceSub, Nat.reduceAdd, Nat.reduceLT, true_and, and_true, if_true, Bool.false_eq_true, if_false, true_implies, false_implies, forall_const, decide_eq_true_eq, decide_eq_false_iff_not, Bool.not_eq_true', Bool.not_eq_false', reduceCtorEq]
        refine w_innS gA0 hws (hw.mono (by omega)) fun bb => ?_
        simp only [Pe.Pw.ws, List.set_cons_zero, List.set_cons_succ, List.length_cons, List.length_nil, List.map_cons, List.map_nil, List.cons_append, List.nil_append, List.replicate_succ, List.replicate_zero, Nat.reduceSub, Nat.reduceAdd, Nat.reduceLT, true_and, and_true, if_true, Bool.false_eq_true, if_false, true_implies, false_implies, forall_const, decide_eq_true_eq, decide_eq_false_iff_not, Bool.not_eq_true', Bool.not_eq_false', reduceCtorEq]
        refine ⟨fun _ => ⟨(sz : 1 ≤ sizeLine), ?_⟩, fun _ => ?_⟩
        · refine w_clx ws (fun s => PV.d (.str s)) (fun s => I s.length) (its_cell gA0) (sz (by omega)) (fun x hx => ?_) ?_
          · have := (hws x hx).2
            simp only [Pe.Pw.ws, List.set_cons_zero, List.set_cons_succ, List.length_cons, List.length_nil, List.map_cons, List.map_nil, List.cons_append, List.nil_append, List.replicate_succ, List.replicate_zero, Nat.reduceSub, Nat.reduceAdd, Nat.reduceLT, true_and, and_true, if_true, Bool.false_eq_true, if_false, true_implies, false_implies, forall_const, decide_eq_true_eq, decide_eq_false_iff_not, Bool.not_eq_true', Bool.not_eq_false', reduceCtorEq, w_lenS (show x.length ≤ sizeLine from sz (by omega))]
            exact rfl
          · have eM : (ws.map fun s => I (s.length : Int)) = (ws.map fun s => (s.length : Int)).map I := by rw [List.map_map]; rfl
            rw [eM]
            simp only [Pe.Pw.ws, List.set_cons_zero, List.set_cons_succ, List.length_cons, List.length_nil, List.map_cons, List.map_nil, List.cons_append, List.nil_append, List.replicate_succ, List.replicate_zero, Nat.reduceSub, Nat.reduceAdd, Nat.reduceLT, true_and, and_true, if_true, Bool.false_eq_true, if_false, true_implies, false_implies, forall_const, decide_eq_true_eq, decide_eq_false_iff_not, Bool.not_eq_true', Bool.not_eq_false', reduceCtorEq, List.length_map]
            refine ⟨sz (by omega), ?_⟩
            rw [show (PV.d (.int 5)) :: (ws.map fun s => (s.length : Int)).map I = I 5 :: (ws.map fun s => (s.length : Int)).map I from rfl, w_maxL]
            have hmx := (maxI_spec 5 (ws.map fun s => (s.length : Int))).1
            have hge := (maxI_spec 5 (ws.map fun s => (s.length : Int))).2 5 List.mem_cons_self
            have hle : maxI 5 (ws.map fun s => (s.length : Int)) ≤ 30 + ws.length := by
              rcases List.mem_cons.mp hmx with e | e
              · omega
              · obtain ⟨x, hx, e⟩ := List.mem_map.mp e
                have := (hws x hx).2
                omega
            generalize maxI 5 (ws.map fun s => (s.length : Int)) = M at *
            have ez : (Str.ofString "z").length = 1 := by decide +kernel
            simp only [Pe.Pw.ws, List.set_cons_zero, List.set_cons_succ, List.length_cons, List.length_nil, List.map_cons, List.map_nil, List.cons_append, List.nil_append, List.replicate_succ, List.replicate_zero, Nat.reduceSub, Nat.reduceAdd, Nat.reduceLT, true_and, and_true, if_true, Bool.false_eq_true, if_false, true_implies, false_implies, forall_const, decide_eq_true_eq, decide_eq_false_iff_not, Bool.not_eq_true', Bool.not_eq_false', reduceCtorEq, w_mulS, ez]
            refine ⟨by omega, repS (Str.ofString "z") (1 + M).toNat, e7, ?_, rfl⟩
            exact (rep_ok (m := 1) ⟨by decide +kernel, by rw [ez]; exact Nat.le_refl _⟩).mono (by omega)
        · exact ⟨w, _, hw.mono (by omega), rfl⟩
      rintro _ _ ⟨w, e7, hw, rfl, rfl⟩
      rw [← hl3]
      simp only [Pe.Pw.ws, List.set_cons_zero, List.set_cons_succ, List.length_cons, List.length_nil, List.map_cons, List.map_nil, List.cons_append, List.nil_append, List.replicate_succ, List.replicate_zero, Nat.reduceSub, Nat.reduceAdd, Nat.reduceLT, true_and, and_true, if_true, Bool.false_eq_true, if_false, true_implies, false_implies, forall_const, decide_eq_true_eq, decide_eq_false_iff_not, Bool.not_eq_true', Bool.not_eq_false', reduceCtorEq, w_app0, List.length_map]
      refine ⟨by omega, some (.d (.int (0 + (ws.length : Int)))), some (.d (.int (m : Nat))), some (.d (.str w)), e6, e7, h3, ws ++ [w], by simp, fun x hx => ?_, d3, ?_, by simp⟩
      · rcases List.mem_append.mp hx with hx | hx
        · exact (hws x hx).mono (by omega)
        · rw [List.mem_singleton.mp hx]; exact hw
      · rw [hl3]
    refine w_nm.mpr ⟨(by decide : 3 < 8), ?_⟩
    refine w_cut (fun e hh => ∃ (m : Nat) (h2 : Hs), 1 ≤ m ∧ m ≤ 3 ∧ Dn n h h2 ∧ e = [some (.ref n), some (.d (.int many)), some (.ref h.length), some (.d (.int (0 + (ws.length : Int)))), some (.d (.int (m : Nat))), e5, e6, e7] ∧ hh = h2 ++ [.lst (ws.map fun s => PV.d (.str s))]) ?_ ?_
    · simp only [Pe.Pw.ws, List.set_cons_zero, List.set_cons_succ, List.length_cons, List.length_nil, List.map_cons, List.map_nil, List.cons_append, List.nil_append, List.replicate_succ, List.replicate_zero, Nat.reduceSub, Nat.reduceAdd, Nat.reduceLT, true_and, and_true, if_true, Bool.false_eq_true, if_false, true_implies, false_implies, forall_const, decide_eq_true_eq, decide_eq_false_iff_not, Bool.not_eq_true', Bool.not_eq_false', reduceCtorEq]
      refine take_w it (by decide) (b.dr a).app fun r g1 r0 r1 b1 => ?_
      obtain ⟨h1, rfl, c1⟩ := b1.split (by rw [b.len]; exact hn)
      simp only [Pe.Pw.ws, List.set_cons_zero, List.set_cons_succ, List.length_cons, List.length_nil, List.map_cons, List.map_nil, List.cons_append, List.nil_append, List.replicate_succ, List.replicate_zero, Nat.reduceSub, Nat.reduceAdd, Nat.reduceLT, true_and, and_true, if_true, Bool.false_eq_true, if_false, true_implies, false_implies, forall_const, decide_eq_true_eq, decide_eq_false_iff_not, Bool.not_eq_true', Bool.not_eq_false', reduceCtorEq]
      exact ⟨(1 + r).toNat, h1, by omega, by omega, b.trans c1, by rw [Int.toNat_of_nonneg (by omega)], rfl⟩
    rintro _ _ ⟨m, h2, m0, m1, d2, rfl, rfl⟩
    refine w_cut (fun e hh => ∃ (m : Nat) (h2 : Hs), 1 ≤ m ∧ m ≤ 30 ∧ Dn n h h2 ∧ e = [some (.ref n), some (.d (.int many)), some (.ref h.length), some (.d (.int (0 + (ws.length : Int)))), some (.d (.int (m : Nat))), e5, e6, e7] ∧ hh = h2 ++ [.lst (ws.map fun s => PV.d (.str s))]) ?_ ?_
    · simp only [Pe.Pw.ws, List.set_cons_zero, List.set_cons_succ, List.length_cons, List.length_nil, List.map_cons, List.map_nil, List.cons_append, List.nil_append, List.replicate_succ, List.replicate_zero, Nat.reduceSub, Nat.reduceAdd, Nat.reduceLT, true_and, and_true, if_true, Bool.false_eq_true, if_false, true_implies, false_implies, forall_const, decide_eq_true_eq, decide_eq_false_iff_not, Bool.not_eq_true', Bool.not_eq_false', reduceCtorEq]
      refine take_w it (by decide) (d2.dr a).app fun r2 g3 _ _ b3 => ?_
      obtain ⟨h3, rfl, c3⟩ := b3.split (by rw [d2.len]; exact hn)
      have d3 := d2.trans c3
      simp only [Pe.Pw.ws, List.set_cons_zero, List.set_cons_succ, List.length_cons, List.length_nil, List.map_cons, List.map_nil, List.cons_append, List.nil_append, List.replicate_succ, List.replicate_zero, Nat.reduceSub, Nat.reduceAdd, Nat.reduceLT, true_and, and_true, if_true, Bool.false_eq_true, if_false, true_implies, false_implies, forall_const, decide_eq_true_eq, decide_eq_false_iff_not, Bool.not_eq_true', Bool.not_eq_false', reduceCtorEq]
      refine ⟨fun _ => ?_, fun _ => ?_⟩
      · refine take_w it (by decide) (d3.dr a).app fun r4 g4 r40 r41 b4 => ?_
        obtain ⟨h4, rfl, c4⟩ := b4.split (by rw [d3.len]; exact hn)
        simp only [Pe.Pw.ws, List.set_cons_zero, List.set_cons_succ, List.length_cons, List.length_nil, List.map_cons, List.map_nil, List.cons_append, List.nil_append, List.replicate_succ, List.replicate_zero, Nat.reduceSub, Nat.reduceAdd, Nat.reduceLT, true_and, and_true, if_true, Bool.false_eq_true, if_false, true_implies, false_implies, forall_const, decide_eq_true_eq, decide_eq_false_iff_not, Bool.not_eq_true', Bool.not_eq_false', reduceCtorEq]
        exact ⟨(m + 3 + r4).toNat, h4, by omega, by omega, d3.trans c4, by rw [Int.toNat_of_nonneg (by omega)], rfl⟩
      · exact ⟨m, h3, by omega, by omega, d3, rfl, rfl⟩
    rintro _ _ ⟨m, h2, m0, m1, d2, rfl, rfl⟩
    exact rest m h2 d2 m0 m1
  · obtain ⟨e3, e4, e5, e6, e7, h', ws, hl, hws, b, rfl, rfl⟩ := p
    rw [← b.len]
    simp only [Pe.Pw.ws, List.set_cons_zero, List.set_cons_succ, List.length_cons, List.length_nil, List.map_cons, List.map_nil, List.cons_append, List.nil_append, List.replicate_succ, List.replicate_zero, Nat.reduceSub, Nat.reduceAdd, Nat.reduceLT, true_and, and_true, if_true, Bool.false_eq_true, if_false, true_implies, false_implies, forall_const, decide_eq_true_eq, decide_eq_false_iff_not, Bool.not_eq_true', Bool.not_eq_false', reduceCtorEq]
    have ew : (ws.map fun s => PV.d (.str s)) = (ws.map D.str).map PV.d := by rw [List.map_map]; rfl
    rw [lv_own0 (by rw [ew]; exact allD_ds _)]
    exact q ws h' hl (fun w hw => (hws w hw).mono (by omega)) b
end
end Pe.Pw
/-! Pe: shuffled rows, open doors, drawn walks. -/
namespace Pe.Pw
open PySem
theorem map_erase {α β : Type} (f : α → β) : ∀ (l : List α) (j : Nat), (l.map f).eraseIdx j = (l.eraseIdx j).map f
  | [], _ => rfl
  | _ :: _, 0 => rfl
  | x :: l, j + 1 => by
    rw [List.map_cons, List.eraseIdx_cons_succ, List.eraseIdx_cons_succ, List.map_cons, map_erase f l j]
theorem perm_erase {α : Type} : ∀ (l : List α) (j : Nat) (hj : j < l.length), (l[j] :: l.eraseIdx j).Perm l
  | x :: l, 0, _ => List.Perm.refl _
  | x :: l, j + 1, hj => by
    rw [List.eraseIdx_cons_succ, List.getElem_cons_succ]
    exact (List.Perm.swap _ _ _).trans (List.Perm.cons _ (perm_erase l j (by simpa using hj)))
section
variable {FT : List Fn} {h : Hs} {Q : PV → Hs → Prop} {n d f : Nat}
theorem w_popAt {fb c : Nat} {xs : List PV} {k : Int} {j : Nat} {v : PV} (e : h[c]? = some (.lst xs)) (e2 : L2.ixN xs.length k = some j) (e3 : xs[j]? = some v) (hk : -(2 ^ 63) ≤ k ∧ k < 2 ^ 63) : Wp (mthV fb .popAt (.ref c) [.d (.int k)]) h Q ↔ Q v (h.set c (.lst (xs.eraseIdx j))) := by
  refine w_iff ?_
  show (match h[c]? with
    | some (.lst xs) => match L2.ixN xs.length k with
      | some j => match xs[j]? with
        | some v => if -(2 ^ 63) ≤ k ∧ k < 2 ^ 63 then some (v, h.set c (.lst (xs.eraseIdx j))) else none
        | none => none
      | none => none
    | none => none) = _
  rw [e]
  dsimp only
  rw [e2]
  dsimp only
  rw [e3]
  dsimp only
  rw [if_pos hk]
def shufB (tk : Nat) : List S := [.asg (.nm 2) (.blt .list [(.var 1)]), .asg (.nm 3) (.lst []), .fr (.nm 4) (.rng1 (.blt .len [(.var 2)])) [.ex (.mth .append (.var 3) [(.mth .popAt (.var 2) [(.call tk [(.var 0), (.blt .len [(.var 2)])])])])], .ret (.var 3)]
/-- _law_pick of a list in a cell -/
theorem pick_r {tk c : Nat} (ip : Is FT f 2 2 (pickB tk)) (it : Is FT tk 2 2 takeB) {ds : List D} (hc : h[c]? = some (.lst (ds.map .d))) (nc : c ≠ n) (hm : 0 < ds.length) (a : Dr n h) (q : ∀ (r : D) h1, r ∈ ds → Dn n h h1 → Q (.d r) h1) : Wp (cal FT (d + 2) f [.ref n, .ref c]) h Q := by
  refine ip.call rfl ?_
  unfold pickB
  simp only [Pe.Pw.ws, List.set_cons_zero, List.set_cons_succ, List.length_cons, List.length_nil, List.map_cons, List.map_nil, List.cons_append, List.nil_append, List.replicate_succ, List.replicate_zero, Nat.reduceSub, Nat.reduceAdd, Nat.reduceLT, true_and, and_true, if_true, Bool.false_eq_true, if_false, true_implies, false_implies, forall_const, decide_eq_true_eq, decide_eq_false_iff_not, Bool.not_eq_true', Bool.not_eq_false', reduceCtorEq, w_lenR hc, List.length_map]
  refine take_w it (by omega) a fun r h1 r0 r1 b => ?_
  obtain ⟨j, rfl⟩ := Int.eq_ofNat_of_zero_le r0
  have hj : j < ds.length := by omega
  have hc1 : h1[c]? = some (.lst (ds.map .d)) := by
    obtain ⟨es, rfl⟩ := b
    rw [List.getElem?_set_ne (by omega)]
    exact hc
  have e : L2.atI (ds.map PV.d) (j : Int) = some (.d ds[j]) := by
    rw [atI_map, atI_nat, List.getElem?_eq_getElem hj]
    rfl
  simp only [Pe.Pw.ws, List.set_cons_zero, List.set_cons_succ, List.length_cons, List.length_nil, List.map_cons, List.map_nil, List.cons_append, List.nil_append, List.replicate_succ, List.replicate_zero, Nat.reduceSub, Nat.reduceAdd, Nat.reduceLT, true_and, and_true, if_true, Bool.false_eq_true, if_false, true_implies, false_implies, forall_const, decide_eq_true_eq, decide_eq_false_iff_not, Bool.not_eq_true', Bool.not_eq_false', reduceCtorEq, w_ixR hc1 e, b.take0]
  exact q _ h1 (List.getElem_mem hj) b
def opensP (p : Pl) : List Nat := (List.range p.2.length).filter fun k => (p.2[k]?.join).isSome
def opensB : List S := [.ret (.comp [2] (.nm 2) (.rng1 (.blt .len [(.idx (.idx (.var 0) (.var 1)) (.cst (.int 1)))])) true (.cmp .notN (.idx (.idx (.idx (.var 0) (.var 1)) (.cst (.int 1))) (.var 2)) (.cst .non)) (.var 2))]
theorem opens_e (is : Is FT f 2 3 opensB) {t : List Pl} {k : Nat} {p : Pl} (ok : TownOk t) (e : t[k]? = some p) : cal FT (d + 1) f [.d (townD t), .d (.int k)] h = some (.tl (((opensP p).map fun i => D.int ((i : Nat) : Int)).map .d), h) := by
  refine eq_of_wp (is.call rfl ?_)
  unfold opensB
  have l1 := ok.doors p (List.mem_of_getElem? e)
  have hz : sizeLine = 2 ^ 24 := rfl
  simp only [Pe.Pw.ws, List.set_cons_zero, List.set_cons_succ, List.length_cons, List.length_nil, List.map_cons, List.map_nil, List.cons_append, List.nil_append, List.replicate_succ, List.replicate_zero, Nat.reduceSub, Nat.reduceAdd, Nat.reduceLT, true_and, and_true, if_true, Bool.false_eq_true, if_false, true_implies, false_implies, forall_const, decide_eq_true_eq, decide_eq_false_iff_not, Bool.not_eq_true', Bool.not_eq_false', reduceCtorEq, w_ixT (at_pl e), w_ixT a2_1, List.length_map]
  refine ⟨by omega, ?_⟩
  rw [show ((p.2.length : Int) - 0).toNat = p.2.length by omega]
  refine w_clN (fun i acc hh => hh = h ∧ acc = ((((List.range i).filter fun k => (p.2[k]?.join).isSome).map fun i => D.int ((i : Nat) : Int)).map .d)) ⟨rfl, rfl⟩ (fun i acc hh hi q => ?_) fun acc hh q => ?_
  · obtain ⟨rfl, rfl⟩ := q
    have eg : p.2[i]? = some p.2[i] := List.getElem?_eq_getElem hi
    have ea : L2.atI (p.2.map oN) (0 + (i : Int)) = some (oN p.2[i]) := by
      rw [Int.zero_add]
      exact at_door eg
    simp only [Pe.Pw.ws, List.set_cons_zero, List.set_cons_succ, List.length_cons, List.length_nil, List.map_cons, List.map_nil, List.cons_append, List.nil_append, List.replicate_succ, List.replicate_zero, Nat.reduceSub, Nat.reduceAdd, Nat.reduceLT, true_and, and_true, if_true, Bool.false_eq_true, if_false, true_implies, false_implies, forall_const, decide_eq_true_eq, decide_eq_false_iff_not, Bool.not_eq_true', Bool.not_eq_false', reduceCtorEq, w_ixT (at_pl e), w_ixT a2_1, w_ixT ea]
    cases q : p.2[i] with
    | none =>
      simp only [Pe.Pw.ws, List.set_cons_zero, List.set_cons_succ, List.length_cons, List.length_nil, List.map_cons, List.map_nil, List.cons_append, List.nil_append, List.replicate_succ, List.replicate_zero, Nat.reduceSub, Nat.reduceAdd, Nat.reduceLT, true_and, and_true, if_true, Bool.false_eq_true, if_false, true_implies, false_implies, forall_const, decide_eq_true_eq, decide_eq_false_iff_not, Bool.not_eq_true', Bool.not_eq_false', reduceCtorEq, oN, isNon, Bool.not_true]
      refine ⟨rfl, ?_⟩
      rw [List.range_succ, List.filter_append]
      simp [eg, q]
    | some g =>
      simp only [Pe.Pw.ws, List.set_cons_zero, List.set_cons_succ, List.length_cons, List.length_nil, List.map_cons, List.map_nil, List.cons_append, List.nil_append, List.replicate_succ, List.replicate_zero, Nat.reduceSub, Nat.reduceAdd, Nat.reduceLT, true_and, and_true, if_true, Bool.false_eq_true, if_false, true_implies, false_implies, forall_const, decide_eq_true_eq, decide_eq_false_iff_not, Bool.not_eq_true', Bool.not_eq_false', reduceCtorEq, oN, isNon, Bool.not_false]
      refine ⟨⟨rfl, ?_⟩, ?_⟩
      · rw [List.range_succ, List.filter_append]
        simp [eg, q]
      · have := List.length_filter_le (fun k => (p.2[k]?.join).isSome) (List.range i)
        rw [List.length_range] at this
        rw [List.length_map, List.length_map]
        omega
  · obtain ⟨rfl, rfl⟩ := q
    rw [lv_tl, take_self]
    exact ⟨rfl, rfl⟩
def walkB (tk pk op : Nat) : List S := [.asg (.nm 4) (.tup []), .asg (.nm 5) (.var 2), .fr (.nm 6) (.rng1 (.call tk [(.var 0), (.bin .add (.var 3) (.cst (.int 1)))])) [.asg (.nm 7) (.call op [(.var 1), (.var 5)]), .ife (.cmp .gt (.blt .len [(.var 7)]) (.cst (.int 0))) [.asg (.nm 8) (.call pk [(.var 0), (.var 7)]), .asg (.nm 4) (.bin .add (.var 4) (.tup [(.var 8)])), .asg (.nm 5) (.idx (.idx (.idx (.var 1) (.var 5)) (.cst (.int 1))) (.var 8))] []], .ret (.var 4)]
theorem mem_opens {p : Pl} {i : Nat} (h : i ∈ opensP p) : ∃ g, p.2[i]? = some (some g) := by
  unfold opensP at h
  rw [List.mem_filter] at h
  cases q : p.2[i]? with
  | none => rw [q] at h; simp at h
  | some o =>
    cases o with
    | none => rw [q] at h; simp at h
    | some g => exact ⟨g, rfl⟩
theorem walk_w {tk pk op : Nat} (is : Is FT f 4 9 (walkB tk pk op)) (it : Is FT tk 2 2 takeB) (ip : Is FT pk 2 2 (pickB tk)) (io : Is FT op 2 3 opensB) {t : List Pl} (ok : TownOk t) {k most : Nat} (hk : k < t.length) (hm : most ≤ 10000) (a : Dr n h)
    (q : ∀ (w : List Nat) (g : Nat) h1, endP t k w = some g → w.length ≤ most → Dn n h h1 → Q (.d (walkD w)) h1) : Wp (cal FT (d + 3) f [.ref n, .d (townD t), .d (.int k), .d (.int most)]) h Q := by
  refine is.call rfl ?_
  unfold walkB
  have hz : sizeLine = 2 ^ 24 := rfl
  have hn := a.lt
  simp only [Pe.Pw.ws, List.set_cons_zero, List.set_cons_succ, List.length_cons, List.length_nil, List.map_cons, List.map_nil, List.cons_append, List.nil_append, List.replicate_succ, List.replicate_zero, Nat.reduceSub, Nat.reduceAdd, Nat.reduceLT, true_and, and_true, if_true, Bool.false_eq_true, if_false, true_implies, false_implies, forall_const, decide_eq_true_eq, decide_eq_false_iff_not, Bool.not_eq_true', Bool.not_eq_false', reduceCtorEq]
  refine ⟨sz, take_w it (by omega) a fun m h0 m0 m1 b0 => ?_⟩
  obtain ⟨m, rfl⟩ := Int.eq_ofNat_of_zero_le m0
  simp only [Pe.Pw.ws, List.set_cons_zero, List.set_cons_succ, List.length_cons, List.length_nil, List.map_cons, List.map_nil, List.cons_append, List.nil_append, List.replicate_succ, List.replicate_zero, Nat.reduceSub, Nat.reduceAdd, Nat.reduceLT, true_and, and_true, if_true, Bool.false_eq_true, if_false, true_implies, false_implies, forall_const, decide_eq_true_eq, decide_eq_false_iff_not, Bool.not_eq_true', Bool.not_eq_false', reduceCtorEq]
  refine ⟨by omega, ?_⟩
  rw [show ((m : Int) - 0).toNat = m by omega]
  refine w_forN (fun i e hh => ∃ (w : List Nat) (now : Nat) (h' es : Hs) (e6 e7 e8 : Option PV), endP t k w = some now ∧ now < t.length ∧ w.length ≤ i ∧ Dn n h h' ∧ e = [some (.ref n), some (.d (townD t)), some (.d (.int k)), some (.d (.int most)), some (.d (walkD w)), some (.d (.int now)), e6, e7, e8] ∧ hh = h' ++ es)
    ⟨[], k, h0, [], none, none, none, rfl, hk, Nat.le_refl _, b0, rfl, (List.append_nil _).symm⟩ (fun i e hh hi p => ?_) fun e hh p => ?_
  · obtain ⟨w, now, h', es, e6, e7, e8, e1, l1, lw, b, rfl, rfl⟩ := p
    have en : t[now]? = some t[now] := List.getElem?_eq_getElem l1
    simp only [Pe.Pw.ws, List.set_cons_zero, List.set_cons_succ, List.length_cons, List.length_nil, List.map_cons, List.map_nil, List.cons_append, List.nil_append, List.replicate_succ, List.replicate_zero, Nat.reduceSub, Nat.reduceAdd, Nat.reduceLT, true_and, and_true, if_true, Bool.false_eq_true, if_false, true_implies, false_implies, forall_const, decide_eq_true_eq, decide_eq_false_iff_not, Bool.not_eq_true', Bool.not_eq_false', reduceCtorEq, w_iff (opens_e io ok en), conv_tld, w_len0, List.length_map]
    refine ⟨fun z => ?_, fun z => ?_⟩
    · have hl := b.len
      refine pick_r ip it gA0 (by rw [List.length_append]; omega) (by rw [List.length_map]; omega) (b.dr a).app.app fun r g1 hr b1 => ?_
      obtain ⟨g2, rfl, c1⟩ := b1.split (by rw [List.length_append]; omega)
      obtain ⟨h2, rfl, c2⟩ := c1.split (by omega)
      obtain ⟨x, hx, rfl⟩ := List.mem_map.mp hr
      obtain ⟨g, eg⟩ := mem_opens hx
      have hg := ok.goals _ (List.getElem_mem l1) g (List.mem_of_getElem? eg)
      simp only [Pe.Pw.ws, List.set_cons_zero, List.set_cons_succ, List.length_cons, List.length_nil, List.map_cons, List.map_nil, List.cons_append, List.nil_append, List.replicate_succ, List.replicate_zero, Nat.reduceSub, Nat.reduceAdd, Nat.reduceLT, true_and, and_true, if_true, Bool.false_eq_true, if_false, true_implies, false_implies, forall_const, decide_eq_true_eq, decide_eq_false_iff_not, Bool.not_eq_true', Bool.not_eq_false', reduceCtorEq, mkTup_1, w_ixT (at_pl en), w_ixT a2_1, w_ixT (at_door eg), List.length_map]
      refine ⟨(sz : 1 ≤ sizeLine), by omega, w ++ [x], g, h2, es ++ [.lst (((opensP t[now]).map fun i => D.int ((i : Nat) : Int)).map .d)], some (.d (.int (0 + (i : Int)))), some (.ref (h2 ++ es).length), some (.d (.int (x : Nat))), ?_, hg, by simp; omega, b.trans c2, ?_, by rw [List.append_assoc]⟩
      · rw [endP_snoc _ _ _ e1, endP_one en]
        unfold stepP
        rw [eg]
        rfl
      · rw [List.length_append, List.length_append, c2.len]
        simp [oN, List.map_append]
    · exact ⟨w, now, h', _, _, _, _, e1, l1, by omega, b, rfl, by rw [List.append_assoc]⟩
  · obtain ⟨w, now, h', es, e6, e7, e8, e1, l1, lw, b, rfl, rfl⟩ := p
    simp only [Pe.Pw.ws, List.set_cons_zero, List.set_cons_succ, List.length_cons, List.length_nil, List.map_cons, List.map_nil, List.cons_append, List.nil_append, List.replicate_succ, List.replicate_zero, Nat.reduceSub, Nat.reduceAdd, Nat.reduceLT, true_and, and_true, if_true, Bool.false_eq_true, if_false, true_implies, false_implies, forall_const, decide_eq_true_eq, decide_eq_false_iff_not, Bool.not_eq_true', Bool.not_eq_false', reduceCtorEq]
    rw [b.take]
    exact q w now h' e1 (by omega) b
end
end Pe.Pw
/-! Pe: drawn towns. -/
namespace Pe.Pw
open PySem
/-- a place that fits a town of so many places -/
structure PlOk (size wide : Nat) (p : Pl) : Prop where
  doors : p.2.length ≤ wide
  goals : ∀ g, some g ∈ p.2 → g < size
  mark : SOk 2000 p.1
theorem town_of {t : List Pl} {wide : Nat} (hl : t.length ≤ 100) (hw : wide ≤ 100) (h : ∀ p ∈ t, PlOk t.length wide p) : TownOk t :=
  ⟨hl, fun p hp => Nat.le_trans (h p hp).doors hw, fun p hp => (h p hp).goals, fun p hp => ⟨(h p hp).mark.1, Nat.le_trans (h p hp).mark.2 (by decide)⟩⟩
section
variable {FT : List Fn} {h : Hs} {Q : PV → Hs → Prop} {n d f : Nat}
def doorsB (tk : Nat) : List S := [.ife (.an (.nt (.var 5)) (.cmp .eq (.call tk [(.var 0), (.cst (.int 4))]) (.cst (.int 0)))) [.ex (.mth .append (.var 9) [(.cst .non)])] [.ex (.mth .append (.var 9) [(.call tk [(.var 0), (.var 3)])])]]
def anyTownB (tk wd pk : Nat) : List S := [.asg (.nm 3) (.bin .add (.cst (.int 1)) (.call tk [(.var 0), (.var 1)])), .asg (.nm 4) (.call wd [(.var 0), (.bin .add (.cst (.int 1)) (.call tk [(.var 0), (.cst (.int 3))]))]), .asg (.nm 5) (.cmp .eq (.call tk [(.var 0), (.cst (.int 3))]) (.cst (.int 0))), .asg (.nm 6) (.bin .add (.cst (.int 1)) (.call tk [(.var 0), (.var 2)])), .asg (.nm 7) (.lst []), .fr (.nm 8) (.rng1 (.var 3)) [.ife (.nt (.var 5)) [.asg (.nm 6) (.call tk [(.var 0), (.bin .add (.var 2) (.cst (.int 1)))])] [], .asg (.nm 9) (.lst []), .fr (.nm 10) (.rng1 (.var 6)) [.ife (.an (.nt (.var 5)) (.cmp .eq (.call tk [(.var 0), (.cst (.int 4))]) (.cst (.int 0)))) [.ex (.mth .append (.var 9) [(.cst .non)])] [.ex (.mth .append (.var 9) [(.call tk [(.var 0), (.var 3)])])]], .ex (.mth .append (.var 7) [(.tup [(.call pk [(.var 0), (.var 4)]), (.blt .tuple [(.var 9)])])])], .ret (.blt .tuple [(.var 7)])]
/-- the doors of one place -/
theorem doors_w {tk : Nat} {cfd : Nat} (it : Is FT tk 2 2 takeB) {fb : Nat} {most wide size m : Nat} {full : Bool} {L : Nat} {X : Hs} {e6 e8 e10 : Option PV} {F : Fl → Hs → Prop} (hs : 0 < size) (hm : m ≤ 100000) (hX : Dr n X)
    (fin : ∀ (ds : List (Option Nat)) (X' : Hs) (e10 : Option PV), ds.length = m → (∀ g, some g ∈ ds → g < size) → Dn n X X' → F (.nx [some (.ref n), some (.d (.int most)), some (.d (.int wide)), some (.d (.int size)), some (.ref L), some (.d (.bl full)), e6, some (.ref (L + 1)), e8, some (.ref X.length), e10]) (X' ++ [.lst ((ds.map oN).map .d)])) :
    Wp (floop (.nm 10) (evSs (cal FT (cfd + 1)) fb (doorsB tk)) (.rng 0 m) ((ItV.rng 0 m).fuel (X ++ [.lst []])) 0 [some (.ref n), some (.d (.int most)), some (.d (.int wide)), some (.d (.int size)), some (.ref L), some (.d (.bl full)), e6, some (.ref (L + 1)), e8, some (.ref X.length), e10]) (X ++ [.lst []]) F := by
  have hz : sizeLine = 2 ^ 24 := rfl
  have hn := hX.lt
  refine w_forN (fun i e hh => ∃ (ds : List (Option Nat)) (X' : Hs) (e10 : Option PV), ds.length = i ∧ (∀ g, some g ∈ ds → g < size) ∧ Dn n X X' ∧ e = [some (.ref n), some (.d (.int most)), some (.d (.int wide)), some (.d (.int size)), some (.ref L), some (.d (.bl full)), e6, some (.ref (L + 1)), e8, some (.ref X.length), e10] ∧ hh = X' ++ [.lst ((ds.map oN).map .d)])
    ⟨[], X, e10, rfl, fun g hg => absurd hg List.not_mem_nil, .refl hX, rfl, rfl⟩ (fun i e hh hi p => ?_) fun e hh p => ?_
  · obtain ⟨ds, X', e10, rfl, hg, b, rfl, rfl⟩ := p
    have hl := b.len
    -- None, or a goal
    have add : ∀ (o : Option Nat) (X2 : Hs), (∀ g, o = some g → g < size) → Dn n X X2 → ∃ (ds' : List (Option Nat)) (X' : Hs) (e10 : Option PV), ds'.length = ds.length + 1 ∧ (∀ g, some g ∈ ds' → g < size) ∧ Dn n X X' ∧
        [some (PV.ref n), some (.d (.int most)), some (.d (.int wide)), some (.d (.int size)), some (.ref L), some (.d (.bl full)), e6, some (.ref (L + 1)), e8, some (.ref X.length), some (.d (.int (0 + (ds.length : Int))))] = [some (.ref n), some (.d (.int most)), some (.d (.int wide)), some (.d (.int size)), some (.ref L), some (.d (.bl full)), e6, some (.ref (L + 1)), e8, some (.ref X.length), e10] ∧
        X2 ++ [Cell.lst ((ds.map oN).map PV.d ++ [.d (oN o)])] = X' ++ [.lst ((ds'.map oN).map .d)] := fun o X2 ho b2 =>
      ⟨ds ++ [o], X2, _, by simp, fun g hg2 => by
        rcases List.mem_append.mp hg2 with hg2 | hg2
        · exact hg g hg2
        · exact ho g (List.mem_singleton.mp hg2).symm, b2, rfl, by simp⟩
    unfold doorsB
    have zl : ((ds.map oN).map PV.d).length < sizeLine := by rw [List.length_map, List.length_map]; omega
    have goal : ∀ (X2 : Hs), Dn n X X2 → Wp (cal FT (cfd + 1) tk [.ref n, .d (.int size)]) (X2 ++ [.lst ((ds.map oN).map .d)]) fun x h => Wp (mthV fb .append (.ref X.length) [x]) h fun _ h => ∃ (ds' : List (Option Nat)) (X' : Hs) (e10 : Option PV), ds'.length = ds.length + 1 ∧ (∀ g, some g ∈ ds' → g < size) ∧ Dn n X X' ∧
        [some (PV.ref n), some (.d (.int most)), some (.d (.int wide)), some (.d (.int size)), some (.ref L), some (.d (.bl full)), e6, some (.ref (L + 1)), e8, some (.ref X.length), some (.d (.int (0 + (ds.length : Int))))] = [some (.ref n), some (.d (.int most)), some (.d (.int wide)), some (.d (.int size)), some (.ref L), some (.d (.bl full)), e6, some (.ref (L + 1)), e8, some (.ref X.length), e10] ∧ h = X' ++ [.lst ((ds'.map oN).map .d)] := by
      intro X2 b2
      refine take_w it (by omega) (b2.dr hX).app fun g g2 g0 g1 b3 => ?_
      obtain ⟨X3, rfl, c3⟩ := b3.split (by rw [b2.len]; exact hn)
      obtain ⟨g, rfl⟩ := Int.eq_ofNat_of_zero_le g0
      have d3 := b2.trans c3
      rw [show X.length = X3.length from d3.len.symm, w_app0]
      refine ⟨zl, ?_⟩
      rw [d3.len]
      exact add (some g) X3 (fun g' e => by cases e; omega) d3
    cases full with
    | true =>
      simp only [Pe.Pw.ws, List.set_cons_zero, List.set_cons_succ, List.length_cons, List.length_nil, List.map_cons, List.map_nil, List.cons_append, List.nil_append, List.replicate_succ, List.replicate_zero, Nat.reduceSub, Nat.reduceAdd, Nat.reduceLT, true_and, and_true, if_true, Bool.false_eq_true, if_false, true_implies, false_implies, forall_const, decide_eq_true_eq, decide_eq_false_iff_not, Bool.not_eq_true', Bool.not_eq_false', reduceCtorEq, Bool.not_true]
      exact goal X' b
    | false =>
      simp only [Pe.Pw.ws, List.set_cons_zero, List.set_cons_succ, List.length_cons, List.length_nil, List.map_cons, List.map_nil, List.cons_append, List.nil_append, List.replicate_succ, List.replicate_zero, Nat.reduceSub, Nat.reduceAdd, Nat.reduceLT, true_and, and_true, if_true, Bool.false_eq_true, if_false, true_implies, false_implies, forall_const, decide_eq_true_eq, decide_eq_false_iff_not, Bool.not_eq_true', Bool.not_eq_false', reduceCtorEq, Bool.not_false]
      refine take_w it (by decide) (b.dr hX).app fun r g2 _ _ b2 => ?_
      obtain ⟨X2, rfl, c2⟩ := b2.split (by rw [hl]; exact hn)
      have d2 := b.trans c2
      simp only [Pe.Pw.ws, List.set_cons_zero, List.set_cons_succ, List.length_cons, List.length_nil, List.map_cons, List.map_nil, List.cons_append, List.nil_append, List.replicate_succ, List.replicate_zero, Nat.reduceSub, Nat.reduceAdd, Nat.reduceLT, true_and, and_true, if_true, Bool.false_eq_true, if_false, true_implies, false_implies, forall_const, decide_eq_true_eq, decide_eq_false_iff_not, Bool.not_eq_true', Bool.not_eq_false', reduceCtorEq]
      refine ⟨fun _ => ?_, fun _ => ?_⟩
      · rw [show X.length = X2.length from d2.len.symm, w_app0]
        refine ⟨zl, ?_⟩
        rw [d2.len]
        exact add none X2 (fun g' e => by cases e) d2
      · exact goal X2 d2
  · obtain ⟨ds, X', e10, hl, hg, b, rfl, rfl⟩ := p
    exact fin ds X' e10 hl hg b
theorem anyTown_w {tk wd pk : Nat} (is : Is FT f 3 11 (anyTownB tk wd pk)) (it : Is FT tk 2 2 takeB) (iw : Is FT wd 2 8 (wordsB tk)) (ip : Is FT pk 2 2 (pickB tk)) {most wide : Nat} (h1 : 0 < most) (h2 : most ≤ 50) (h3 : 0 < wide) (h4 : wide ≤ 50) (a : Dr n h)
    (q : ∀ (t : List Pl) g, 0 < t.length → t.length ≤ most → (∀ p ∈ t, PlOk t.length wide p) → Dn n h g → Q (.d (townD t)) g) : Wp (cal FT (d + 4) f [.ref n, .d (.int most), .d (.int wide)]) h Q := by
  refine is.call rfl ?_
  unfold anyTownB
  have hz : sizeLine = 2 ^ 24 := rfl
  have hn := a.lt
  simp only [Pe.Pw.ws, List.set_cons_zero, List.set_cons_succ, List.length_cons, List.length_nil, List.map_cons, List.map_nil, List.cons_append, List.nil_append, List.replicate_succ, List.replicate_zero, Nat.reduceSub, Nat.reduceAdd, Nat.reduceLT, true_and, and_true, if_true, Bool.false_eq_true, if_false, true_implies, false_implies, forall_const, decide_eq_true_eq, decide_eq_false_iff_not, Bool.not_eq_true', Bool.not_eq_false', reduceCtorEq]
  refine take_w it (by omega) a fun sz0 g1 s0 s1 b1 => ?_
  simp only [Pe.Pw.ws, List.set_cons_zero, List.set_cons_succ, List.length_cons, List.length_nil, List.map_cons, List.map_nil, List.cons_append, List.nil_append, List.replicate_succ, List.replicate_zero, Nat.reduceSub, Nat.reduceAdd, Nat.reduceLT, true_and, and_true, if_true, Bool.false_eq_true, if_false, true_implies, false_implies, forall_const, decide_eq_true_eq, decide_eq_false_iff_not, Bool.not_eq_true', Bool.not_eq_false', reduceCtorEq]
  refine take_w it (by decide) (b1.dr a) fun mw g2 w0 w1 b2 => ?_
  have b2 := b1.trans b2
  simp only [Pe.Pw.ws, List.set_cons_zero, List.set_cons_succ, List.length_cons, List.length_nil, List.map_cons, List.map_nil, List.cons_append, List.nil_append, List.replicate_succ, List.replicate_zero, Nat.reduceSub, Nat.reduceAdd, Nat.reduceLT, true_and, and_true, if_true, Bool.false_eq_true, if_false, true_implies, false_implies, forall_const, decide_eq_true_eq, decide_eq_false_iff_not, Bool.not_eq_true', Bool.not_eq_false', reduceCtorEq]
  obtain ⟨size, es⟩ := Int.eq_ofNat_of_zero_le (show 0 ≤ 1 + sz0 by omega)
  obtain ⟨many, em⟩ := Int.eq_ofNat_of_zero_le (show 0 ≤ 1 + mw by omega)
  rw [em, es]
  refine words_w iw it (by omega) (b2.dr a) fun ws g3 hwl hws b3 => ?_
  have b3 := b2.trans b3
  have ew : (ws.map fun s => PV.d (.str s)) = (ws.map D.str).map PV.d := by rw [List.map_map]; rfl
  rw [ew, conv_tld]
  simp only [Pe.Pw.ws, List.set_cons_zero, List.set_cons_succ, List.length_cons, List.length_nil, List.map_cons, List.map_nil, List.cons_append, List.nil_append, List.replicate_succ, List.replicate_zero, Nat.reduceSub, Nat.reduceAdd, Nat.reduceLT, true_and, and_true, if_true, Bool.false_eq_true, if_false, true_implies, false_implies, forall_const, decide_eq_true_eq, decide_eq_false_iff_not, Bool.not_eq_true', Bool.not_eq_false', reduceCtorEq]
  refine take_w it (by decide) (b3.dr a).app fun fl g4 _ _ b4 => ?_
  obtain ⟨X4, rfl, c4⟩ := b4.split (by rw [b3.len]; exact hn)
  have d4 := b3.trans c4
  rw [show g3.length = X4.length by rw [b3.len, d4.len]]
  simp only [Pe.Pw.ws, List.set_cons_zero, List.set_cons_succ, List.length_cons, List.length_nil, List.map_cons, List.map_nil, List.cons_append, List.nil_append, List.replicate_succ, List.replicate_zero, Nat.reduceSub, Nat.reduceAdd, Nat.reduceLT, true_and, and_true, if_true, Bool.false_eq_true, if_false, true_implies, false_implies, forall_const, decide_eq_true_eq, decide_eq_false_iff_not, Bool.not_eq_true', Bool.not_eq_false', reduceCtorEq]
  refine take_w it (by omega) (d4.dr a).app fun m6 g5 m60 m61 b5 => ?_
  obtain ⟨X5, rfl, c5⟩ := b5.split (by rw [d4.len]; exact hn)
  have d5 := d4.trans c5
  rw [show X4.length = X5.length by rw [d4.len, d5.len]]
  simp only [Pe.Pw.ws, List.set_cons_zero, List.set_cons_succ, List.length_cons, List.length_nil, List.map_cons, List.map_nil, List.cons_append, List.nil_append, List.replicate_succ, List.replicate_zero, Nat.reduceSub, Nat.reduceAdd, Nat.reduceLT, true_and, and_true, if_true, Bool.false_eq_true, if_false, true_implies, false_implies, forall_const, decide_eq_true_eq, decide_eq_false_iff_not, Bool.not_eq_true', Bool.not_eq_false', reduceCtorEq]
  obtain ⟨m6, e6⟩ := Int.eq_ofNat_of_zero_le (show 0 ≤ 1 + m6 by omega)
  rw [e6]
  have hL : X5.length = h.length := d5.len
  simp only [List.append_assoc, List.length_append, List.length_cons, List.length_nil, List.cons_append, List.nil_append, Nat.reduceAdd, Nat.zero_add, hL]
  refine ⟨sz, by omega, ?_⟩
  rw [show ((size : Int) - 0).toNat = size by omega]
  generalize (decide (fl = 0)) = full
  refine w_forN (fun i e hh => ∃ (pls : List Pl) (h' es : Hs) (m : Nat) (e8 e9 e10 : Option PV), pls.length = i ∧ (∀ p ∈ pls, PlOk size wide p) ∧ Dn n h h' ∧ m ≤ wide ∧
      e = [some (.ref n), some (.d (.int most)), some (.d (.int wide)), some (.d (.int size)), some (.ref h.length), some (.d (.bl full)), some (.d (.int m)), some (.ref (h.length + 1)), e8, e9, e10] ∧ hh = h' ++ (.lst ((ws.map D.str).map .d) :: .lst ((pls.map plD).map .d) :: es))
    ⟨[], X5, [], m6, _, _, _, rfl, fun p hp => absurd hp List.not_mem_nil, d5, by omega, rfl, rfl⟩ (fun i e hh hi p => ?_) fun e hh p => ?_
  · obtain ⟨pls, h', es', m, e8, e9, e10, rfl, hp, b, hm, rfl, rfl⟩ := p
    have hl := b.len
    refine w_nm.mpr ⟨(by decide : 8 < 11), ?_⟩
    refine w_cut (fun e hh => ∃ (m : Nat) (h' : Hs), Dn n h h' ∧ m ≤ wide ∧ e = [some (.ref n), some (.d (.int most)), some (.d (.int wide)), some (.d (.int size)), some (.ref h.length), some (.d (.bl full)), some (.d (.int m)), some (.ref (h.length + 1)), some (.d (.int (0 + (pls.length : Int)))), e9, e10] ∧ hh = h' ++ (.lst ((ws.map D.str).map .d) :: .lst ((pls.map plD).map .d) :: es')) ?_ ?_
    · simp only [Pe.Pw.ws, List.set_cons_zero, List.set_cons_succ, List.length_cons, List.length_nil, List.map_cons, List.map_nil, List.cons_append, List.nil_append, List.replicate_succ, List.replicate_zero, Nat.reduceSub, Nat.reduceAdd, Nat.reduceLT, true_and, and_true, if_true, Bool.false_eq_true, if_false, true_implies, false_implies, forall_const, decide_eq_true_eq, decide_eq_false_iff_not, Bool.not_eq_true', Bool.not_eq_false', reduceCtorEq]
      refine ⟨fun _ => ?_, fun _ => ?_⟩
      · refine take_w it (by omega) (b.dr a).app fun r g6 r0 r1 b6 => ?_
        obtain ⟨X6, rfl, c6⟩ := b6.split (by rw [hl]; exact hn)
        obtain ⟨r, rfl⟩ := Int.eq_ofNat_of_zero_le r0
        simp only [Pe.Pw.ws, List.set_cons_zero, List.set_cons_succ, List.length_cons, List.length_nil, List.map_cons, List.map_nil, List.cons_append, List.nil_append, List.replicate_succ, List.replicate_zero, Nat.reduceSub, Nat.reduceAdd, Nat.reduceLT, true_and, and_true, if_true, Bool.false_eq_true, if_false, true_implies, false_implies, forall_const, decide_eq_true_eq, decide_eq_false_iff_not, Bool.not_eq_true', Bool.not_eq_false', reduceCtorEq]
        exact ⟨r, X6, b.trans c6, by omega, rfl, rfl⟩
      · exact ⟨m, h', b, hm, rfl, rfl⟩
    rintro _ _ ⟨m, h', b, hm, rfl, rfl⟩
    have hl := b.len
    refine w_cut (fun e hh => e = [some (.ref n), some (.d (.int most)), some (.d (.int wide)), some (.d (.int size)), some (.ref h.length), some (.d (.bl full)), some (.d (.int m)), some (.ref (h.length + 1)), some (.d (.int (0 + (pls.length : Int)))), some (.ref (h' ++ (Cell.lst ((ws.map D.str).map .d) :: .lst ((pls.map plD).map .d) :: es')).length), e10] ∧ hh = (h' ++ (.lst ((ws.map D.str).map .d) :: .lst ((pls.map plD).map .d) :: es')) ++ [.lst []]) ?_ ?_
    · simp only [Pe.Pw.ws, List.set_cons_zero, List.set_cons_succ, List.length_cons, List.length_nil, List.map_cons, List.map_nil, List.cons_append, List.nil_append, List.replicate_succ, List.replicate_zero, Nat.reduceSub, Nat.reduceAdd, Nat.reduceLT, true_and, and_true, if_true, Bool.false_eq_true, if_false, true_implies, false_implies, forall_const, decide_eq_true_eq, decide_eq_false_iff_not, Bool.not_eq_true', Bool.not_eq_false', reduceCtorEq]
      exact sz
    rintro _ _ ⟨rfl, rfl⟩
    generalize hX : (h' ++ (Cell.lst ((ws.map D.str).map .d) :: .lst ((pls.map plD).map .d) :: es')) = X
    have dX : Dr n X := by rw [← hX]; exact (b.dr a).app
    refine w_cut (fun e hh => ∃ (ds : List (Option Nat)) (X' : Hs) (e10 : Option PV), ds.length = m ∧ (∀ g, some g ∈ ds → g < size) ∧ Dn n X X' ∧ e = [some (.ref n), some (.d (.int most)), some (.d (.int wide)), some (.d (.int size)), some (.ref h.length), some (.d (.bl full)), some (.d (.int m)), some (.ref (h.length + 1)), some (.d (.int (0 + (pls.length : Int)))), some (.ref X.length), e10] ∧ hh = X' ++ [.lst ((ds.map oN).map .d)]) ?_ ?_
    · simp only [Pe.Pw.ws, List.set_cons_zero, List.set_cons_succ, List.length_cons, List.length_nil, List.map_cons, List.map_nil, List.cons_append, List.nil_append, List.replicate_succ, List.replicate_zero, Nat.reduceSub, Nat.reduceAdd, Nat.reduceLT, true_and, and_true, if_true, Bool.false_eq_true, if_false, true_implies, false_implies, forall_const, decide_eq_true_eq, decide_eq_false_iff_not, Bool.not_eq_true', Bool.not_eq_false', reduceCtorEq]
      refine ⟨by omega, ?_⟩
      rw [show ((m : Int) - 0).toNat = m by omega]
      exact doors_w (cfd := d + 2) it (by omega) (by omega) dX fun ds X' e10 k1 k2 k3 => ⟨ds, X', e10, k1, k2, k3, rfl, rfl⟩
    rintro _ _ ⟨ds, X', e10, k1, k2, k3, rfl, rfl⟩
    rw [← hX] at k3 ⊢
    obtain ⟨h6, rfl, c6⟩ := k3.split (by rw [hl]; exact hn)
    have d6 := b.trans c6
    have hl6 := d6.len
    rw [show (h' ++ (Cell.lst ((ws.map D.str).map PV.d) :: .lst ((pls.map plD).map PV.d) :: es')).length = (h6 ++ (Cell.lst ((ws.map D.str).map PV.d) :: .lst ((pls.map plD).map PV.d) :: es')).length by rw [List.length_append, List.length_append, hl, hl6]]
    simp only [Pe.Pw.ws, List.set_cons_zero, List.set_cons_succ, List.length_cons, List.length_nil, List.map_cons, List.map_nil, List.cons_append, List.nil_append, List.replicate_succ, List.replicate_zero, Nat.reduceSub, Nat.reduceAdd, Nat.reduceLT, true_and, and_true, if_true, Bool.false_eq_true, if_false, true_implies, false_implies, forall_const, decide_eq_true_eq, decide_eq_false_iff_not, Bool.not_eq_true', Bool.not_eq_false', reduceCtorEq]
    have hw : ((h6 ++ (Cell.lst ((ws.map D.str).map PV.d) :: .lst ((pls.map plD).map PV.d) :: es')) ++ [Cell.lst ((ds.map oN).map PV.d)])[h.length]? = some (.lst ((ws.map D.str).map .d)) := by
      rw [List.append_assoc, ← hl6]
      exact gA0
    refine pick_r ip it hw (by omega) (by rw [List.length_map]; omega) (d6.dr a).app.app fun mk g7 hmk b7 => ?_
    obtain ⟨g8, rfl, c7⟩ := b7.split (by rw [List.length_append]; omega)
    obtain ⟨h8, rfl, c8⟩ := c7.split (by omega)
    have d8 := d6.trans c8
    have hl8 := d8.len
    obtain ⟨w, hwm, rfl⟩ := List.mem_map.mp hmk
    rw [show (h6 ++ (Cell.lst ((ws.map D.str).map PV.d) :: .lst ((pls.map plD).map PV.d) :: es')).length = (h8 ++ (Cell.lst ((ws.map D.str).map PV.d) :: .lst ((pls.map plD).map PV.d) :: es')).length by rw [List.length_append, List.length_append, hl6, hl8]]
    simp only [Pe.Pw.ws, List.set_cons_zero, List.set_cons_succ, List.length_cons, List.length_nil, List.map_cons, List.map_nil, List.cons_append, List.nil_append, List.replicate_succ, List.replicate_zero, Nat.reduceSub, Nat.reduceAdd, Nat.reduceLT, true_and, and_true, if_true, Bool.false_eq_true, if_false, true_implies, false_implies, forall_const, decide_eq_true_eq, decide_eq_false_iff_not, Bool.not_eq_true', Bool.not_eq_false', reduceCtorEq, w_tup0]
    rw [mkTup_ds, mkTup_2]
    have g9 : ((h8 ++ (Cell.lst ((ws.map D.str).map PV.d) :: .lst ((pls.map plD).map PV.d) :: es')) ++ [Cell.lst ((ds.map oN).map PV.d)])[h.length + 1]? = some (.lst ((pls.map plD).map .d)) := by
      rw [List.append_assoc, ← hl8]
      exact gA
    simp only [Pe.Pw.ws, List.set_cons_zero, List.set_cons_succ, List.length_cons, List.length_nil, List.map_cons, List.map_nil, List.cons_append, List.nil_append, List.replicate_succ, List.replicate_zero, Nat.reduceSub, Nat.reduceAdd, Nat.reduceLT, true_and, and_true, if_true, Bool.false_eq_true, if_false, true_implies, false_implies, forall_const, decide_eq_true_eq, decide_eq_false_iff_not, Bool.not_eq_true', Bool.not_eq_false', reduceCtorEq, w_app g9 (show ((pls.map plD).map PV.d).length < sizeLine by rw [List.length_map, List.length_map]; omega)]
    refine ⟨(sz : 2 ≤ sizeLine), pls ++ [(w, ds)], h8, es' ++ [.lst ((ds.map oN).map .d)], m, some (.d (.int (0 + (pls.length : Int)))), some (.ref (h8 ++ (Cell.lst ((ws.map D.str).map PV.d) :: .lst ((pls.map plD).map PV.d) :: es')).length), e10, by simp, fun p hp2 => ?_, d8, hm, rfl, ?_⟩
    · rcases List.mem_append.mp hp2 with hp2 | hp2
      · exact hp p hp2
      · rw [List.mem_singleton.mp hp2]
        exact ⟨by show ds.length ≤ wide; omega, k2, hws w hwm⟩
    · rw [List.append_assoc, ← hl8, sA]
      simp
  · obtain ⟨pls, h', es', m, e8, e9, e10, hl, hp, b, hm, rfl, rfl⟩ := p
    have g7 : (h' ++ (Cell.lst ((ws.map D.str).map .d) :: .lst ((pls.map plD).map .d) :: es'))[h.length + 1]? = some (.lst ((pls.map plD).map .d)) := by rw [← b.len]; exact gA
    simp only [Pe.Pw.ws, List.set_cons_zero, List.set_cons_succ, List.length_cons, List.length_nil, List.map_cons, List.map_nil, List.cons_append, List.nil_append, List.replicate_succ, List.replicate_zero, Nat.reduceSub, Nat.reduceAdd, Nat.reduceLT, true_and, and_true, if_true, Bool.false_eq_true, if_false, true_implies, false_implies, forall_const, decide_eq_true_eq, decide_eq_false_iff_not, Bool.not_eq_true', Bool.not_eq_false', reduceCtorEq, w_tupR g7]
    rw [mkTup_ds, lv_d, b.take]
    exact q pls h' (by omega) (by omega) (by rw [hl]; exact hp) b
end
end Pe.Pw
/-! Pe: list.index; two lists compared. -/
namespace Pe.Pw
open PySem
section
variable {FT : List Fn} {h : Hs} {Q : PV → Hs → Prop} {n d f : Nat}
end
end Pe.Pw
/-! Pe: a town renamed. -/
namespace Pe.Pw
open PySem
section
variable {FT : List Fn} {h : Hs} {Q : PV → Hs → Prop} {n d f : Nat}
end
end Pe.Pw
/-! Pe: members of lists and tuples of data. -/
namespace Pe.Pw
open PySem
section
variable {FT : List Fn} {h : Hs} {Q : PV → Hs → Prop} {n d f : Nat}
/-- a comprehension that keeps some, over the pictures of plain things, and changes nothing -/
theorem w_clf {α : Type} {f : PV → M (Option PV)} {iv : ItV} {C : List PV → Hs → Prop} (xs : List α) (tod : α → PV) (g : α → Option PV) (hi : Its iv h (xs.map tod)) (z : xs.length ≤ sizeLine)
    (st : ∀ x ∈ xs, Wp (f (tod x)) h fun o h1 => o = g x ∧ h1 = h) (fin : C (xs.filterMap g) h) : Wp (cloop f iv (iv.fuel h) 0 []) h C := by
  refine w_cl (xs.map tod) (fun i acc h1 => h1 = h ∧ acc = (xs.take i).filterMap g) ⟨rfl, rfl⟩ (fun i acc h1 _ p => by rw [p.1]; exact hi) (fun i acc h1 y e p => ?_) fun acc h1 p => ?_
  · obtain ⟨rfl, rfl⟩ := p
    rw [List.getElem?_map] at e
    cases q : xs[i]? with
    | none => rw [q] at e; cases e
    | some x =>
      rw [q] at e
      cases e
      refine wp_imp (st x (List.mem_of_getElem? q)) fun o h2 w => ?_
      obtain ⟨rfl, rfl⟩ := w
      have hlt := (List.getElem?_eq_some_iff.mp q).1
      have tk : xs.take (i + 1) = xs.take i ++ [x] := by rw [List.take_add_one, q]; rfl
      cases gx : g x with
      | none =>
        refine ⟨rfl, ?_⟩
        rw [tk, List.filterMap_append]
        simp [gx]
      | some y =>
        refine ⟨⟨rfl, ?_⟩, ?_⟩
        · rw [tk, List.filterMap_append]
          simp [gx]
        · have := List.length_filterMap_le g (xs.take i)
          rw [List.length_take] at this
          omega
  · obtain ⟨rfl, rfl⟩ := p
    rw [List.length_map, List.take_length]
    exact fin
end
/-! equality of data that hold no truth values -/
mutual
def nbD : D → Bool
  | .bl _ => false
  | .tup xs => nbsD xs
  | _ => true
def nbsD : List D → Bool
  | [] => true
  | x :: xs => nbD x && nbsD xs
end
theorem nbs_iff {xs : List D} : nbsD xs = true ↔ ∀ x ∈ xs, nbD x = true := by
  induction xs with
  | nil => simp [nbsD]
  | cons x xs ih => simp [nbsD, ih]
mutual
theorem eqv_nb : ∀ (x y : D), nbD x = true → nbD y = true → (PyData.eqv x.py y.py = true ↔ x = y)
  | .non, .non, _, _ => by simp [D.py, PyData.eqv]
  | .non, .int _, _, _ => by simp [D.py, PyData.eqv]
  | .non, .str _, _, _ => by simp [D.py, PyData.eqv]
  | .non, .tup _, _, _ => by simp [D.py, PyData.eqv]
  | .int _, .non, _, _ => by simp [D.py, PyData.eqv]
  | .int _, .int _, _, _ => by simp [D.py, PyData.eqv]
  | .int _, .str _, _, _ => by simp [D.py, PyData.eqv]
  | .int _, .tup _, _, _ => by simp [D.py, PyData.eqv]
  | .str _, .non, _, _ => by simp [D.py, PyData.eqv]
  | .str _, .int _, _, _ => by simp [D.py, PyData.eqv]
  | .str _, .str _, _, _ => by simp [D.py, PyData.eqv]
  | .str _, .tup _, _, _ => by simp [D.py, PyData.eqv]
  | .tup _, .non, _, _ => by simp [D.py, PyData.eqv]
  | .tup _, .int _, _, _ => by simp [D.py, PyData.eqv]
  | .tup _, .str _, _, _ => by simp [D.py, PyData.eqv]
  | .tup xs, .tup ys, a, b => by
    simp only [D.py, PyData.eqv, D.tup.injEq]
    exact eqv_nbs xs ys (by simpa [nbD] using a) (by simpa [nbD] using b)
  | .bl _, _, a, _ => by simp [nbD] at a
  | .non, .bl _, _, b => by simp [nbD] at b
  | .int _, .bl _, _, b => by simp [nbD] at b
  | .str _, .bl _, _, b => by simp [nbD] at b
  | .tup _, .bl _, _, b => by simp [nbD] at b
theorem eqv_nbs : ∀ (xs ys : List D), nbsD xs = true → nbsD ys = true → (PyData.eqvAll (D.pys xs) (D.pys ys) = true ↔ xs = ys)
  | [], [], _, _ => by simp [D.pys, PyData.eqvAll]
  | [], _ :: _, _, _ => by simp [D.pys, PyData.eqvAll]
  | _ :: _, [], _, _ => by simp [D.pys, PyData.eqvAll]
  | x :: xs, y :: ys, a, b => by
    simp only [nbsD, Bool.and_eq_true] at a b
    simp only [D.pys, PyData.eqvAll, Bool.and_eq_true, List.cons.injEq]
    rw [eqv_nb x y a.1 b.1, eqv_nbs xs ys a.2 b.2]
end
end Pe.Pw
/-! Clo: least ways; a table widened by one arc; Floyd's table. Plain. -/
namespace Clo
abbrev Arc := Nat × Nat × Int
inductive Way (A : List Arc) : Nat → Nat → Int → Prop
  | nil (x : Nat) : Way A x x 0
  | cons {a b y : Nat} {w v : Int} (h : (a, b, w) ∈ A) (t : Way A b y v) : Way A a y (w + v)
theorem Way.mono {A B : List Arc} (h : ∀ a ∈ A, a ∈ B) {x y : Nat} {v : Int} (w : Way A x y v) : Way B x y v := by
  induction w with
  | nil x => exact .nil x
  | cons m _ ih => exact .cons (h _ m) ih
theorem Way.app {A : List Arc} {x y z : Nat} {v u : Int} (w : Way A x y v) (t : Way A y z u) : Way A x z (v + u) := by
  induction w with
  | nil x => rw [Int.zero_add]; exact t
  | cons m _ ih => rw [Int.add_assoc]; exact .cons m (ih t)
theorem Way.one {A : List Arc} {a b : Nat} {w : Int} (h : (a, b, w) ∈ A) : Way A a b w := by
  have := Way.cons h (.nil b)
  rwa [Int.add_zero] at this
def le (o : Option Int) (v : Int) : Prop := ∃ u, o = some u ∧ u ≤ v
theorem le.mono {o : Option Int} {v u : Int} (h : le o v) (e : v ≤ u) : le o u := by
  obtain ⟨w, rfl, l⟩ := h
  exact ⟨w, rfl, by omega⟩
/-- a table of functions: the least ways -/
structure Cl (m : Nat) (A : List Arc) (T : Nat → Nat → Option Int) : Prop where
  way : ∀ x y u, x < m → y < m → T x y = some u → Way A x y u
  least : ∀ x y v, x < m → y < m → Way A x y v → le (T x y) v
  diag : ∀ x, x < m → T x x = some 0
def Clash (m : Nat) (A : List Arc) : Prop := ∃ x v, x < m ∧ Way A x x v ∧ v < 0
theorem Cl.uniq {m : Nat} {A B : List Arc} {T U : Nat → Nat → Option Int} (c : Cl m A T) (d : Cl m B U) (h : ∀ a, a ∈ A ↔ a ∈ B) {x y : Nat} (hx : x < m) (hy : y < m) : T x y = U x y := by
  cases e : T x y with
  | none =>
    cases e2 : U x y with
    | none => rfl
    | some u =>
      obtain ⟨v, q, _⟩ := c.least x y u hx hy ((d.way x y u hx hy e2).mono fun a ha => (h a).mpr ha)
      rw [e] at q
      cases q
  | some v =>
    obtain ⟨u, e2, l⟩ := d.least x y v hx hy ((c.way x y v hx hy e).mono fun a ha => (h a).mp ha)
    obtain ⟨v', q, l2⟩ := c.least x y u hx hy ((d.way x y u hx hy e2).mono fun a ha => (h a).mpr ha)
    rw [e] at q
    cases q
    rw [e2]
    congr 1
    omega
def ArcsIn (m : Nat) (A : List Arc) : Prop := ∀ a ∈ A, a.1 < m ∧ a.2.1 < m
/-! one arc more -/
/-- U is T with the arc (b, e, w) more -/
structure More (m : Nat) (T U : Nat → Nat → Option Int) (b e : Nat) (w : Int) : Prop where
  old : ∀ x y u, x < m → y < m → T x y = some u → le (U x y) u
  new : ∀ x y p q, x < m → y < m → T x b = some p → T e y = some q → le (U x y) (p + w + q)
  form : ∀ x y u, x < m → y < m → U x y = some u → T x y = some u ∨ ∃ p q, T x b = some p ∧ T e y = some q ∧ u = p + w + q
theorem Cl.more {m : Nat} {A : List Arc} {T U : Nat → Nat → Option Int} {b e : Nat} {w : Int} (c : Cl m A T) (hA : ArcsIn m A) (hb : b < m) (he : e < m) (nb : ∀ v, T e b = some v → 0 ≤ v + w) (d : More m T U b e w) : Cl m ((b, e, w) :: A) U := by
  have sub : ∀ a ∈ A, a ∈ (b, e, w) :: A := fun a ha => List.mem_cons_of_mem _ ha
  have tri : ∀ x y z p q, x < m → y < m → z < m → T x y = some p → T y z = some q → le (T x z) (p + q) := fun x y z p q hx hy hz e1 e2 =>
    c.least x z _ hx hz ((c.way x y p hx hy e1).app (c.way y z q hy hz e2))
  have dg : ∀ x, x < m → U x x = some 0 := fun x hx => by
    obtain ⟨u, e1, l⟩ := d.old x x 0 hx hx (c.diag x hx)
    rw [e1]
    congr 1
    rcases d.form x x u hx hx e1 with h | ⟨p, q, h1, h2, rfl⟩
    · rw [c.diag x hx] at h
      cases h
      rfl
    · obtain ⟨v, h3, l3⟩ := tri e x b q p he hx hb h2 h1
      have := nb v h3
      omega
  refine ⟨fun x y u hx hy e1 => ?_, ?_, dg⟩
  · rcases d.form x y u hx hy e1 with h | ⟨p, q, h1, h2, rfl⟩
    · exact (c.way x y u hx hy h).mono sub
    · rw [Int.add_assoc]
      exact ((c.way x b p hx hb h1).mono sub).app (.cons List.mem_cons_self ((c.way e y q he hy h2).mono sub))
  · intro x y v hx hy wy
    induction wy with
    | nil x => rw [dg x hx]; exact ⟨0, rfl, Int.le_refl _⟩
    | @cons a b' y w' v' ha _ ih =>
      have hb' : b' < m := by
        rcases List.mem_cons.mp ha with h | h
        · cases h; exact he
        · exact (hA _ h).2
      obtain ⟨u, e1, l⟩ := ih hb' hy
      rcases List.mem_cons.mp ha with h | h
      · cases h
        rcases d.form e y u he hy e1 with h | ⟨p, q, h1, h2, rfl⟩
        · exact (d.new b y 0 u hb hy (c.diag b hb) h).mono (by omega)
        · have := nb p h1
          exact (d.new b y 0 q hb hy (c.diag b hb) h2).mono (by omega)
      · rcases d.form b' y u hb' hy e1 with h3 | ⟨p, q, h1, h2, rfl⟩
        · obtain ⟨t, e3, l3⟩ := c.least a y (w' + u) hx hy (.cons h (c.way b' y u hb' hy h3))
          exact (d.old a y t hx hy e3).mono (by omega)
        · obtain ⟨t, e3, l3⟩ := c.least a b (w' + p) hx hb (.cons h (c.way b' b p hb' hb h1))
          exact (d.new a y t q hx hy e3 h2).mono (by omega)
theorem Clash.mono {m : Nat} {A B : List Arc} (h : ∀ a ∈ A, a ∈ B) : Clash m A → Clash m B := fun ⟨x, v, hx, w, hv⟩ => ⟨x, v, hx, w.mono h, hv⟩
/-! Floyd's table -/
abbrev Tb := Nat → Nat → Option Int
/-- what holds always -/
structure Fw (m : Nat) (A : List Arc) (T : Tb) : Prop where
  way : ∀ x y u, x < m → y < m → T x y = some u → Way A x y u
  arc : ∀ a b w, (a, b, w) ∈ A → le (T a b) w
  diag : ∀ x, x < m → le (T x x) 0
def Nn (m : Nat) (T : Tb) : Prop := ∀ x u, x < m → T x x = some u → 0 ≤ u
/-- triangles over the marks below k -/
def Tri (m k : Nat) (T : Tb) : Prop := ∀ z, z < k → z < m → ∀ x y p q, x < m → y < m → T x z = some p → T z y = some q → le (T x y) (p + q)
/-- within the turn of `by`, rows below k and the beginning of row k below j are done -/
structure Mid (m : Nat) (T0 T : Tb) (z : Nat) (done : Nat → Nat → Prop) : Prop where
  mono : ∀ x y u, x < m → y < m → T0 x y = some u → le (T x y) u
  form : Nn m T0 → ∀ x y u, x < m → y < m → T x y = some u → T0 x y = some u ∨ ∃ p q, T0 x z = some p ∧ T0 z y = some q ∧ u = p + q
  got : Nn m T0 → ∀ x y p q, x < m → y < m → done x y → T0 x z = some p → T0 z y = some q → le (T x y) (p + q)
  col : Nn m T0 → ∀ x, x < m → T x z = T0 x z
  row : Nn m T0 → ∀ y, y < m → T z y = T0 z y
theorem Mid.start {m z : Nat} {T : Tb} : Mid m T T z fun _ _ => False :=
  ⟨fun _ _ u _ _ e => ⟨u, e, Int.le_refl _⟩, fun _ _ _ _ _ _ e => .inl e, fun _ _ _ _ _ _ _ h => h.elim, fun _ _ _ => rfl, fun _ _ _ => rfl⟩
theorem Mid.weak {m z : Nat} {T0 T : Tb} {P R : Nat → Nat → Prop} (h : Mid m T0 T z P) (k : ∀ x y, x < m → y < m → R x y → P x y) : Mid m T0 T z R :=
  ⟨h.mono, h.form, fun n x y p q hx hy d => h.got n x y p q hx hy (k x y hx hy d), h.col, h.row⟩
def upd (T : Tb) (i j : Nat) (v : Option Int) : Tb := fun x y => if x = i ∧ y = j then v else T x y
/-- the entry (i, j) is looked at -/
theorem Mid.step {m z i j : Nat} {A : List Arc} {T0 T : Tb} {P : Nat → Nat → Prop} {p q : Int} (h : Mid m T0 T z P) (f0 : Fw m A T0) (hz : z < m) (hi : i < m) (hj : j < m) (e1 : T i z = some p) (e2 : T z j = some q) (lt : ∀ u, T i j = some u → p + q < u) :
    Mid m T0 (upd T i j (some (p + q))) z fun x y => P x y ∨ (x = i ∧ y = j) := by
  have notz : Nn m T0 → i ≠ z ∧ j ≠ z := fun n => by
    obtain ⟨d, ed, ld⟩ := f0.diag z hz
    have dn := n z d hz ed
    refine ⟨fun e => ?_, fun e => ?_⟩
    · subst e
      have c := h.col n i hi
      have : T i i = some d := by rw [c]; exact ed
      rw [this] at e1
      cases e1
      have := lt q e2
      omega
    · subst e
      have c := h.row n j hj
      have : T j j = some d := by rw [c]; exact ed
      rw [this] at e2
      cases e2
      have := lt p e1
      omega
  refine ⟨fun x y u hx hy e => ?_, fun n x y u hx hy e => ?_, fun n x y p' q' hx hy d e3 e4 => ?_, fun n x hx => ?_, fun n y hy => ?_⟩
  · unfold upd
    split
    · rename_i hc
      obtain ⟨rfl, rfl⟩ := hc
      obtain ⟨v, ev, lv⟩ := h.mono x y u hx hy e
      have := lt v ev
      exact ⟨_, rfl, by omega⟩
    · exact h.mono x y u hx hy e
  · unfold upd at e
    split at e
    · rename_i hc
      obtain ⟨rfl, rfl⟩ := hc
      cases e
      exact .inr ⟨p, q, by rw [← h.col n x hi]; exact e1, by rw [← h.row n y hj]; exact e2, rfl⟩
    · exact h.form n x y u hx hy e
  · unfold upd
    split
    · rename_i hc
      obtain ⟨rfl, rfl⟩ := hc
      rw [h.col n x hi] at e1
      rw [h.row n y hj] at e2
      rw [e3] at e1
      rw [e4] at e2
      cases e1
      cases e2
      exact ⟨_, rfl, Int.le_refl _⟩
    · rename_i hc
      rcases d with d | d
      · exact h.got n x y p' q' hx hy d e3 e4
      · exact absurd d hc
  · unfold upd
    rw [if_neg fun c => (notz n).2 c.2.symm]
    exact h.col n x hx
  · unfold upd
    rw [if_neg fun c => (notz n).1 c.1.symm]
    exact h.row n y hy
theorem Mid.keep {m z i j : Nat} {T0 T : Tb} {P : Nat → Nat → Prop} {p q u : Int} (h : Mid m T0 T z P) (hi : i < m) (hj : j < m) (e1 : T i z = some p) (e2 : T z j = some q) (e3 : T i j = some u) (le' : u ≤ p + q) :
    Mid m T0 T z fun x y => P x y ∨ (x = i ∧ y = j) :=
  ⟨h.mono, h.form, fun n x y p' q' hx hy d e4 e5 => by
    rcases d with d | ⟨rfl, rfl⟩
    · exact h.got n x y p' q' hx hy d e4 e5
    · rw [h.col n x hi, e4] at e1
      rw [h.row n y hj, e5] at e2
      cases e1
      cases e2
      exact ⟨u, e3, le'⟩, h.col, h.row⟩
theorem Mid.nn {m z : Nat} {A : List Arc} {T0 T : Tb} {P : Nat → Nat → Prop} (h : Mid m T0 T z P) (n : Nn m T) : Nn m T0 := fun x u hx e => by
  obtain ⟨v, ev, lv⟩ := h.mono x x u hx hx e
  have := n x v hx ev
  omega
theorem Mid.tri {m z : Nat} {A : List Arc} {T0 T : Tb} (h : Mid m T0 T z fun _ _ => True) (f0 : Fw m A T0) (hz : z < m) (c : Nn m T0 → Tri m z T0) : Nn m T → Tri m (z + 1) T := fun nT => by
  have n := h.nn (A := A) nT
  have c := c n
  obtain ⟨d, ed, ld⟩ := f0.diag z hz
  have dn := n z d hz ed
  intro k hk hkm x y p q hx hy e1 e2
  have old : ∀ v, le (T0 x y) v → le (T x y) v := fun v ⟨u, eu, lu⟩ => (h.mono x y u hx hy eu).mono lu
  by_cases hkz : k = z
  · subst hkz
    rw [h.col n x hx] at e1
    rw [h.row n y hy] at e2
    exact h.got n x y p q hx hy trivial e1 e2
  · have hk' : k < z := by omega
    rcases h.form n x k p hx hkm e1 with h1 | ⟨p1, p2, h1, h2, rfl⟩
    · rcases h.form n k y q hkm hy e2 with g1 | ⟨q1, q2, g1, g2, rfl⟩
      · exact old _ (c k hk' hkm x y p q hx hy h1 g1)
      · obtain ⟨t, et, lt⟩ := c k hk' hkm x z p q1 hx hz h1 g1
        exact (h.got n x y t q2 hx hy trivial et g2).mono (by omega)
    · rcases h.form n k y q hkm hy e2 with g1 | ⟨q1, q2, g1, g2, rfl⟩
      · obtain ⟨t, et, lt⟩ := c k hk' hkm z y p2 q hz hy h2 g1
        exact (h.got n x y p1 t hx hy trivial h1 et).mono (by omega)
      · obtain ⟨t, et, lt⟩ := c k hk' hkm z z p2 q1 hz hz h2 g1
        rw [ed] at et
        cases et
        exact (h.got n x y p1 q2 hx hy trivial h1 g2).mono (by omega)
theorem Fw.upd {m i j : Nat} {A : List Arc} {T : Tb} {p q : Int} {z : Nat} (f : Fw m A T) (hi : i < m) (hj : j < m) (hz : z < m) (e1 : T i z = some p) (e2 : T z j = some q) (lt : ∀ u, T i j = some u → p + q < u) : Fw m A (Clo.upd T i j (some (p + q))) := by
  have dec : ∀ x y v, le (T x y) v → le (Clo.upd T i j (some (p + q)) x y) v := fun x y v ⟨u, eu, lu⟩ => by
    unfold Clo.upd
    split
    · rename_i hc
      obtain ⟨rfl, rfl⟩ := hc
      have := lt u eu
      exact ⟨_, rfl, by omega⟩
    · exact ⟨u, eu, lu⟩
  refine ⟨fun x y u hx hy e => ?_, fun a b w h => dec _ _ _ (f.arc a b w h), fun x hx => dec _ _ _ (f.diag x hx)⟩
  unfold Clo.upd at e
  split at e
  · rename_i hc
    obtain ⟨rfl, rfl⟩ := hc
    cases e
    exact (f.way x z p hi hz e1).app (f.way z y q hz hj e2)
  · exact f.way x y u hx hy e
theorem Fw.cl {m : Nat} {A : List Arc} {T : Tb} (f : Fw m A T) (hA : ArcsIn m A) (n : Nn m T) (c : Tri m m T) : Cl m A T := by
  refine ⟨f.way, fun x y v hx hy w => ?_, fun x hx => ?_⟩
  · induction w with
    | nil x => exact f.diag x hx
    | @cons a b y w v h _ ih =>
      obtain ⟨u, e, l⟩ := f.arc a b w h
      have hb := (hA _ h).2
      obtain ⟨t, e2, l2⟩ := ih hb hy
      exact (c b hb hb a y u t hx hy e e2).mono (by omega)
  · obtain ⟨u, e, l⟩ := f.diag x hx
    have := n x u hx e
    rw [e]
    congr 1
    omega
theorem Fw.clash {m : Nat} {A : List Arc} {T : Tb} (f : Fw m A T) {x : Nat} {u : Int} (hx : x < m) (e : T x x = some u) (hu : u < 0) : Clash m A := ⟨x, u, hx, f.way x x u hx hx e, hu⟩
theorem Fw.start {m : Nat} {T : Tb} (h : ∀ x y, x < m → y < m → T x y = if x = y then some 0 else none) : Fw m [] T := by
  refine ⟨fun x y u hx hy e => ?_, fun a b w h => absurd h List.not_mem_nil, fun x hx => ⟨0, by rw [h x x hx hx, if_pos rfl], Int.le_refl _⟩⟩
  rw [h x y hx hy] at e
  split at e
  · rename_i q
    subst q
    cases e
    exact .nil x
  · cases e
end Clo
/-! Pe: tables of bounds, as lists of lists in cells. -/
namespace Pe.Pw
open PySem
def oi : Option Int → D
  | none => .non
  | some i => .int i
abbrev Row := List (Option Int)
abbrev Mx := List Row
abbrev rowL (r : Row) : List PV := (r.map oi).map .d
def rowC (r : Row) : Cell := .lst (rowL r)
def rowV (r : Row) : PV := .tl (rowL r)
def mxV (M : Mx) : PV := .tl (M.map rowV)
def gt (M : Mx) (x y : Nat) : Option Int := ((M[x]?).bind fun r => r[y]?).join
structure Sq (m : Nat) (M : Mx) : Prop where
  len : M.length = m
  row : ∀ r ∈ M, r.length = m
structure MxAt (h : Hs) (n : Nat) (M : Mx) (ns : List Nat) : Prop where
  cell : h[n]? = some (.lst (ns.map .ref))
  len : ns.length = M.length
  rows : ∀ (i k : Nat) (r : Row), ns[i]? = some k → M[i]? = some r → h[k]? = some (rowC r)
structure Own (fb n : Nat) (ns : List Nat) : Prop where
  le : fb ≤ n
  les : ∀ k ∈ ns, fb ≤ k
  nd : (n :: ns).Nodup
section
variable {h : Hs} {Q : PV → Hs → Prop} {n d : Nat} {M : Mx} {ns : List Nat}
theorem Sq.get {m : Nat} (s : Sq m M) {x : Nat} (hx : x < m) : ∃ r, M[x]? = some r ∧ r.length = m := by
  have hx' : x < M.length := by rw [s.len]; exact hx
  exact ⟨_, List.getElem?_eq_getElem hx', s.row _ (List.getElem_mem hx')⟩
theorem gt_row {x y : Nat} {r : Row} (e : M[x]? = some r) : gt M x y = (r[y]?).join := by
  unfold gt
  rw [e]
  rfl
theorem at_row {r : Row} {y : Nat} (hy : y < r.length) : L2.atI (rowL r) (y : Int) = some (.d (oi (r[y]?).join)) := by
  rw [atI_map, atI_map, atI_nat, List.getElem?_eq_getElem hy]
  rfl
theorem MxAt.get (a : MxAt h n M ns) {x : Nat} {r : Row} (e : M[x]? = some r) : ∃ k, ns[x]? = some k ∧ L2.atI (ns.map PV.ref) (x : Int) = some (.ref k) ∧ h[k]? = some (.lst (rowL r)) := by
  have hx : x < ns.length := by rw [a.len]; exact (List.getElem?_eq_some_iff.mp e).1
  have e1 := List.getElem?_eq_getElem hx
  refine ⟨ns[x], e1, ?_, a.rows x _ r e1 e⟩
  rw [atI_map, atI_nat, e1]
  rfl
theorem MxAt.app {es : Hs} (a : MxAt h n M ns) : MxAt (h ++ es) n M ns :=
  ⟨by rw [List.getElem?_append_left (List.getElem?_eq_some_iff.mp a.cell).1]; exact a.cell, a.len, fun i k r e1 e2 => by
    have := a.rows i k r e1 e2
    rw [List.getElem?_append_left (List.getElem?_eq_some_iff.mp this).1]
    exact this⟩
theorem MxAt.keep {h' : Hs} (a : MxAt h n M ns) (k : ∀ i c, h[i]? = some c → (i = n ∨ i ∈ ns) → h'[i]? = some c) : MxAt h' n M ns :=
  ⟨k _ _ a.cell (.inl rfl), a.len, fun i j r e1 e2 => k _ _ (a.rows i j r e1 e2) (.inr (List.mem_of_getElem? e1))⟩
/-- a row is changed -/
theorem MxAt.set (a : MxAt h n M ns) (nd : (n :: ns).Nodup) {x k : Nat} {r : Row} (e : ns[x]? = some k) : MxAt (h.set k (.lst (rowL r))) n (M.set x r) ns := by
  obtain ⟨n1, n2⟩ := List.nodup_cons.mp nd
  have hk := List.mem_of_getElem? e
  have hx : x < M.length := by rw [← a.len]; exact (List.getElem?_eq_some_iff.mp e).1
  refine ⟨?_, by rw [List.length_set]; exact a.len, fun i j r' e1 e2 => ?_⟩
  · rw [List.getElem?_set_ne (fun q => n1 (by rw [← q]; exact hk))]
    exact a.cell
  · have ex : M[x]? = some M[x] := List.getElem?_eq_getElem hx
    have hlt := (List.getElem?_eq_some_iff.mp (a.rows x k _ e ex)).1
    by_cases hi : i = x
    · subst hi
      rw [e] at e1
      cases e1
      rw [List.getElem?_set_self hx] at e2
      cases e2
      exact List.getElem?_set_self hlt
    · rw [List.getElem?_set_ne (Ne.symm hi)] at e2
      have hne : k ≠ j := fun q => by
        subst q
        have h1 := List.getElem?_eq_some_iff.mp e
        have h2 := List.getElem?_eq_some_iff.mp e1
        exact hi ((List.getElem_inj n2).mp (h2.2.trans h1.2.symm))
      rw [List.getElem?_set_ne hne]
      exact a.rows i j r' e1 e2
theorem conv_row {r : Row} : conv (rowV r) h = (.ref h.length, h ++ [rowC r]) := conv_tld
theorem convs_rows : ∀ (M : Mx) (h : Hs), convs (M.map rowV) h = ((List.range' h.length M.length).map .ref, h ++ M.map rowC)
  | [], h => by
    rw [List.map_nil, List.map_nil, List.append_nil]
    rfl
  | r :: M, h => by
    rw [List.map_cons, convs_cons, conv_row]
    dsimp only
    rw [convs_rows M (h ++ [rowC r])]
    rw [List.length_append, List.length_cons, List.length_cons, List.length_nil, List.range'_succ, List.map_cons, List.map_cons, List.append_assoc]
    rfl
theorem conv_mx : conv (mxV M) h = (.ref (h.length + M.length), h ++ M.map rowC ++ [.lst ((List.range' h.length M.length).map .ref)]) := by
  show ((.ref (convs (M.map rowV) h).2.length : PV), (convs (M.map rowV) h).2 ++ [Cell.lst (convs (M.map rowV) h).1]) = _
  rw [convs_rows]
  dsimp only
  rw [List.length_append, List.length_map]
theorem mx_new : MxAt (h ++ M.map rowC ++ [.lst ((List.range' h.length M.length).map .ref)]) (h.length + M.length) M (List.range' h.length M.length) := by
  refine ⟨?_, List.length_range', fun i k r e1 e2 => ?_⟩
  · have : h.length + M.length = (h ++ M.map rowC).length := by rw [List.length_append, List.length_map]
    rw [this]
    exact List.getElem?_concat_length ..
  · have hi := (List.getElem?_eq_some_iff.mp e2).1
    rw [List.getElem?_range' hi] at e1
    cases e1
    rw [List.append_assoc, List.getElem?_append_right (by omega), List.getElem?_append_left (by rw [List.length_map]; omega), List.getElem?_map]
    rw [show h.length + 1 * i - h.length = i by omega, e2]
    rfl
theorem own_new {k : Nat} : Own h.length (h.length + k) (List.range' h.length k) := by
  refine ⟨by omega, fun j hj => ?_, ?_⟩
  · rw [List.mem_range'_1] at hj
    omega
  · rw [List.nodup_cons]
    refine ⟨fun hj => ?_, List.nodup_range'⟩
    rw [List.mem_range'_1] at hj
    omega
theorem Own.mono {fb fb' : Nat} (o : Own fb n ns) (h : fb' ≤ fb) : Own fb' n ns := ⟨Nat.le_trans h o.le, fun k hk => Nat.le_trans h (o.les k hk), o.nd⟩
theorem mapRefs_rows {fb : Nat} {h : Hs} {k : Nat} : ∀ (ns : List Nat) (M : Mx), ns.length = M.length → (∀ j ∈ ns, fb ≤ j) → (∀ (i j : Nat) (r : Row), ns[i]? = some j → M[i]? = some r → h[j]? = some (rowC r)) → mapRefs (resR fb h (k + 1)) (ns.map .ref) = some (M.map rowV, ns)
  | [], [], _, _, _ => rfl
  | [], _ :: _, e, _, _ => by cases e
  | _ :: _, [], e, _, _ => by cases e
  | j :: ns, r :: M, e, hl, hr => by
    have ih := mapRefs_rows (fb := fb) (h := h) (k := k) ns M (by simpa using e) (fun j hj => hl j (List.mem_cons_of_mem _ hj)) fun i j' r' e1 e2 => hr (i + 1) j' r' (by simpa using e1) (by simpa using e2)
    have h0 := hr 0 j r rfl rfl
    have one : mapRef (resR fb h (k + 1)) (.ref j) = some (rowV r, [j]) := by
      show (if j < fb then some (PV.ref j, []) else match h[j]? with
        | some (.lst xs) => match mapRefs (resR fb h k) xs with
          | some (ys, l) => some (PV.tl ys, j :: l)
          | none => none
        | none => none) = _
      rw [if_neg (by have := hl j List.mem_cons_self; omega), h0]
      dsimp only [rowC]
      rw [mapRefs_ds]
      rfl
    show (match mapRef (resR fb h (k + 1)) (.ref j), mapRefs (resR fb h (k + 1)) (ns.map PV.ref) with
      | some (y, l), some (ys, l2) => some (y :: ys, l ++ l2)
      | _, _ => none) = _
    rw [one, ih]
    rfl
end
end Pe.Pw
/-! Pe: readings, their arcs, and how they are drawn. -/
namespace Pe.Pw
open PySem
/-- a reading -/
structure Rd where
  a : Nat
  b : Nat
  lo : Option Int
  hi : Option Int
def Rd.D (r : Rd) : D := .tup [.int r.a, .int r.b, oi r.lo, oi r.hi]
abbrev tI (xs : List Int) : D := .tup (xs.map .int)
def rsD (rs : List Rd) : D := .tup (rs.map Rd.D)
/-- an arc with its sign -/
structure Ar where
  a : Nat
  b : Nat
  w : Int
  s : D
def Ar.D (x : Ar) : D := .tup [.int x.a, .int x.b, .int x.w, x.s]
def arcsA (i : Nat) (r : Rd) : List Ar := (match r.lo with
  | none => []
  | some l => [⟨r.b, r.a, -l, .tup [.int i, .int (-1)]⟩]) ++ (match r.hi with
  | none => []
  | some l => [⟨r.a, r.b, l, .tup [.int i, .int 1]⟩])
def allA : Nat → List Rd → List Ar
  | _, [] => []
  | k, r :: rs => arcsA k r ++ allA (k + 1) rs
/-- without the signs -/
def Ar.arc (x : Ar) : Clo.Arc := (x.a, x.b, x.w)
theorem perm_map {α β : Type} {f : α → β} {ys zs : List β} (p : ys.Perm zs) : ∀ {xs : List α}, zs = xs.map f → ∃ us : List α, us.Perm xs ∧ ys = us.map f := by
  induction p with
  | nil => intro xs e; cases xs with
    | nil => exact ⟨[], .nil, rfl⟩
    | cons => cases e
  | cons x _ ih => intro xs e; cases xs with
    | nil => cases e
    | cons y xs =>
      rw [List.map_cons, List.cons.injEq] at e
      obtain ⟨us, p, rfl⟩ := ih e.2
      exact ⟨y :: us, p.cons _, by rw [List.map_cons, e.1]⟩
  | swap x y l => intro xs e; match xs, e with
    | a :: b :: xs, e =>
      simp only [List.map_cons, List.cons.injEq] at e
      obtain ⟨rfl, rfl, rfl⟩ := e
      exact ⟨b :: a :: xs, .swap _ _ _, rfl⟩
  | trans _ _ ih1 ih2 => intro xs e; obtain ⟨us, p2, e2⟩ := ih2 e; obtain ⟨vs, p1, e1⟩ := ih1 e2; exact ⟨vs, p1.trans p2, e1⟩
section
variable {FT : List Fn} {h : Hs} {Q : PV → Hs → Prop} {n d f : Nat}
def rarcsB : List S := [.asg (.tup [(.nm 3), (.nm 4), (.nm 5), (.nm 6)]) (.var 1), .asg (.nm 2) (.lst []), .ife (.cmp .notN (.var 5) (.cst .non)) [.ex (.mth .append (.var 2) [(.tup [(.var 4), (.var 3), (.un .neg (.var 5)), (.tup [(.var 0), (.un .neg (.cst (.int 1)))])])])] [], .ife (.cmp .notN (.var 6) (.cst .non)) [.ex (.mth .append (.var 2) [(.tup [(.var 3), (.var 4), (.var 6), (.tup [(.var 0), (.cst (.int 1))])])])] [], .ret (.var 2)]
def arcsOfB (ra : Nat) : List S := [.asg (.nm 1) (.lst []), .fr (.tup [(.nm 2), (.nm 3)]) (.enum (.var 0)) [.ex (.mth .extend (.var 1) [(.call ra [(.var 2), (.var 3)])])], .ret (.var 1)]
/-! drawing -/
end
end Pe.Pw
/-! Pe: readings with a ring below 0, drawn. -/
namespace Pe.Pw
open PySem
section
variable {FT : List Fn} {h : Hs} {Q : PV → Hs → Prop} {n d f : Nat}
theorem Dn.get {h' : Hs} (b : Dn n h h') {c : Nat} (hc : c ≠ n) : h'[c]? = h[c]? := by
  obtain ⟨ds, rfl⟩ := b
  rw [List.getElem?_set_ne (Ne.symm hc)]
end
end Pe.Pw
/-! Pe: the program's tables of bounds. -/
namespace Pe.Pw
open PySem
section
variable {FT : List Fn} {h : Hs} {Q : PV → Hs → Prop} {n d f : Nat}
/-- a comprehension over a range whose items are plain -/
theorem w_clg {f : PV → M (Option PV)} {lo : Int} {n : Nat} {C : List PV → Hs → Prop} (g : Nat → PV) (z : n ≤ sizeLine)
    (st : ∀ i, i < n → Wp (f (.d (.int (lo + (i : Nat))))) h fun o h1 => o = some (g i) ∧ h1 = h) (fin : C ((List.range n).map g) h) : Wp (cloop f (.rng lo n) ((ItV.rng lo n).fuel h) 0 []) h C :=
  w_clx (List.range n) (fun i : Nat => PV.d (.int (lo + (i : Int)))) g its_rng (by rw [List.length_range]; exact z) (fun i hi => st i (List.mem_range.mp hi)) fin
def freeB : List S := [.ret (.comp [1] (.nm 1) (.rng1 (.var 0)) false (.cst (.bl true)) (.comp [2] (.nm 2) (.rng1 (.var 0)) false (.cst (.bl true)) (.ifx (.cmp .eq (.var 1) (.var 2)) (.cst (.int 0)) (.cst .non))))]
def shorterB : List S := [.asg (.nm 3) (.blt .list [(.var 0)]), .fr (.tup [(.nm 4), (.nm 5)]) (.enum (.var 2)) [.ife (.an (.cmp .notN (.var 5) (.cst .non)) (.orr (.cmp .isN (.idx (.var 3) (.var 4)) (.cst .non)) (.cmp .lt (.bin .add (.var 1) (.var 5)) (.idx (.var 3) (.var 4))))) [.sub (.var 3) (.var 4) (.bin .add (.var 1) (.var 5))] []], .ret (.var 3)]
def sh1 (t : Option Int) (far : Int) (mo : Option Int) : Option Int := match mo with
  | none => t
  | some u => match t with
    | none => some (far + u)
    | some v => if far + u < v then some (far + u) else some v
end
end Pe.Pw
/-! Pe: the program's tables of bounds, widened by arcs. -/
namespace Pe.Pw
open PySem
section
variable {FT : List Fn} {h : Hs} {Q : PV → Hs → Prop} {n d f : Nat} {M : Mx} {ns : List Nat} {m : Nat}
def withB (sh : Nat) : List S := [.asg (.nm 4) (.idx (.idx (.var 0) (.var 2)) (.var 1)), .ife (.an (.cmp .notN (.var 4) (.cst .non)) (.cmp .lt (.bin .add (.var 4) (.var 3)) (.cst (.int 0)))) [.ret (.cst .non)] [], .asg (.nm 5) (.idx (.var 0) (.var 2)), .asg (.nm 6) (.lst []), .fr (.nm 7) (.seq (.var 0)) [.ife (.cmp .isN (.idx (.var 7) (.var 1)) (.cst .non)) [.ex (.mth .append (.var 6) [(.blt .list [(.var 7)])])] [.ex (.mth .append (.var 6) [(.call sh [(.var 7), (.bin .add (.idx (.var 7) (.var 1)) (.var 3)), (.var 5)])])]], .ret (.var 6)]
end
end Pe.Pw
/-! Pe: the program's tables of readings. -/
namespace Pe.Pw
open PySem
section
variable {FT : List Fn} {h : Hs} {Q : PV → Hs → Prop} {n d f : Nat} {M : Mx} {ns : List Nat} {m : Nat}
def alongBd (wi : Nat) : List S := [.asg (.nm 2) (.var 0), .fr (.tup [(.nm 3), (.nm 4), (.nm 5), (.nm 6)]) (.seq (.var 1)) [.asg (.nm 2) (.call wi [(.var 2), (.var 3), (.var 4), (.var 5)]), .ife (.cmp .isN (.var 2) (.cst .non)) [.ret (.cst .non)] []], .ret (.var 2)]
end
end Pe.Pw
/-! Pe: table_of, table_behind. -/
namespace Pe.Pw
open PySem
section
variable {FT : List Fn} {h : Hs} {Q : PV → Hs → Prop} {n d f : Nat} {M : Mx} {ns : List Nat} {m : Nat}
def uppersOfB (al fr ao : Nat) : List S := [.ret (.call al [(.call fr [(.var 0)]), (.call ao [(.var 1)])])]
end
end Pe.Pw
/-! Pe: the law's own tables. -/
namespace Pe.Pw
open PySem
section
variable {FT : List Fn} {h : Hs} {Q : PV → Hs → Prop} {n d f : Nat} {M : Mx} {ns : List Nat} {m : Nat}
theorem Sq.set {x : Nat} {r : Row} {j : Nat} {v : Option Int} (s : Sq m M) (e : M[x]? = some r) : Sq m (M.set x (r.set j v)) := by
  refine ⟨by rw [List.length_set]; exact s.len, fun y hy => ?_⟩
  rcases List.mem_or_eq_of_mem_set hy with h | h
  · exact s.row y h
  · rw [h, List.length_set]
    exact s.row r (List.mem_of_getElem? e)
/-- the table stands in own cells; older cells are as they were -/
structure St (h hh : Hs) (m : Nat) (M : Mx) : Prop where
  sq : Sq m M
  at_ : MxAt hh (h.length + m) M (List.range' h.length m)
  pre : hh.take h.length = h
theorem St.lt {hh : Hs} (s : St h hh m M) : h.length ≤ hh.length := by
  have := congrArg List.length s.pre
  rw [List.length_take] at this
  omega
theorem St.row {hh : Hs} (s : St h hh m M) {x : Nat} (hx : x < m) : ∃ r, M[x]? = some r ∧ r.length = m ∧ L2.atI ((List.range' h.length m).map PV.ref) (x : Int) = some (.ref (h.length + x)) ∧ hh[h.length + x]? = some (.lst (rowL r)) := by
  obtain ⟨r, er, rl⟩ := s.sq.get hx
  obtain ⟨k, nk, ax, hk⟩ := s.at_.get er
  have : k = h.length + x := by
    rw [List.getElem?_range' hx] at nk
    cases nk
    omega
  subst this
  exact ⟨r, er, rl, ax, hk⟩
/-- an entry is written -/
theorem St.put {hh : Hs} (s : St h hh m M) {x j : Nat} {r : Row} {v : Option Int} (hx : x < m) (e : M[x]? = some r) : St h (hh.set (h.length + x) (.lst (rowL (r.set j v)))) m (M.set x (r.set j v)) := by
  refine ⟨s.sq.set e, s.at_.set own_new.nd (by rw [List.getElem?_range' hx]; congr 1; omega), ?_⟩
  rw [List.take_set_of_le (by omega)]
  exact s.pre
theorem St.rd {hh : Hs} (s : St h hh m M) {x y : Nat} (hx : x < m) (hy : y < m) {R : PV → Hs → Prop} : (Wp (idxV (.ref (h.length + m)) (.d (.int (x : Nat)))) hh fun v h1 => Wp (idxV v (.d (.int (y : Nat)))) h1 R) ↔ R (.d (oi (gt M x y))) hh := by
  obtain ⟨r, er, rl, ax, hk⟩ := s.row hx
  rw [w_ixR s.at_.cell ax, w_ixR hk (at_row (by omega)), gt_row er]
def hE (m : Nat) (rs : List Rd) (l : Nat) (e3 e4 e5 e6 e7 e8 e9 e10 : Option PV) : Env := [some (.d (.int m)), some (.d (rsD rs)), some (.ref (l + m)), e3, e4, e5, e6, e7, e8, e9, e10]
end
end Pe.Pw
/-! Pe: _law_table. -/
namespace Pe.Pw
open PySem
section
variable {FT : List Fn} {h : Hs} {Q : PV → Hs → Prop} {n d f : Nat} {M : Mx} {ns : List Nat} {m : Nat}
theorem MxAt.rd (a : MxAt h n M ns) (s : Sq m M) {x y : Nat} (hx : x < m) (hy : y < m) {R : PV → Hs → Prop} : (Wp (idxV (.ref n) (.d (.int (x : Nat)))) h fun v h1 => Wp (idxV v (.d (.int (y : Nat)))) h1 R) ↔ R (.d (oi (gt M x y))) h := by
  obtain ⟨r, er, rl⟩ := s.get hx
  obtain ⟨k, _, ax, hk⟩ := a.get er
  rw [w_ixR a.cell ax, w_ixR hk (at_row (by omega)), gt_row er]
end
end Pe.Pw
/-! Pe: readings that hold at places; a table's one value. -/
namespace Pe.Pw
open PySem
def Rd.fits (r : Rd) (ps : List Int) : Prop := (∀ l, r.lo = some l → l ≤ ps.getD r.b 0 - ps.getD r.a 0) ∧ ∀ l, r.hi = some l → ps.getD r.b 0 - ps.getD r.a 0 ≤ l
section
variable {FT : List Fn} {h : Hs} {Q : PV → Hs → Prop} {n d f : Nat}
end
/-! a table's one value -/
section
variable {FT : List Fn} {h : Hs} {Q : PV → Hs → Prop} {n d f m : Nat} {rs : List Rd}
theorem shuf_r {tk c : Nat} (is : Is FT f 2 5 (shufB tk)) (it : Is FT tk 2 2 takeB) {xs : List D} (hx : xs.length ≤ 100000) (hc : h[c]? = some (.lst (xs.map .d))) (a : Dr n h) (q : ∀ (ys : List D) h1, ys.Perm xs → Dn n h h1 → Q (.tl (ys.map .d)) h1) : Wp (cal FT (d + 2) f [.ref n, .ref c]) h Q := by
  refine is.call rfl ?_
  unfold shufB
  have hz : sizeLine = 2 ^ 24 := rfl
  have hn := a.lt
  simp only [Pe.Pw.ws, List.set_cons_zero, List.set_cons_succ, List.length_cons, List.length_nil, List.map_cons, List.map_nil, List.cons_append, List.nil_append, List.replicate_succ, List.replicate_zero, Nat.reduceSub, Nat.reduceAdd, Nat.reduceLT, true_and, and_true, if_true, Bool.false_eq_true, if_false, true_implies, false_implies, forall_const, decide_eq_true_eq, decide_eq_false_iff_not, Bool.not_eq_true', Bool.not_eq_false', reduceCtorEq, w_listR hc, conv_tld]
  simp only [List.append_assoc, List.length_append, List.length_cons, List.length_nil, List.cons_append, List.nil_append, Nat.reduceAdd, Nat.add_assoc]
  have g1 : (h ++ [Cell.lst (xs.map .d), .lst []])[h.length]? = some (.lst (xs.map .d)) := gA0
  simp only [Pe.Pw.ws, List.set_cons_zero, List.set_cons_succ, List.length_cons, List.length_nil, List.map_cons, List.map_nil, List.cons_append, List.nil_append, List.replicate_succ, List.replicate_zero, Nat.reduceSub, Nat.reduceAdd, Nat.reduceLT, true_and, and_true, if_true, Bool.false_eq_true, if_false, true_implies, false_implies, forall_const, decide_eq_true_eq, decide_eq_false_iff_not, Bool.not_eq_true', Bool.not_eq_false', reduceCtorEq, w_lenR g1, List.length_map]
  refine ⟨sz, by omega, ?_⟩
  rw [show ((xs.length : Int) - 0).toNat = xs.length by omega]
  refine w_forN (fun i e hh => ∃ (ls ts : List D) (e4 : Option PV) (h' : Hs), ts.length = i ∧ (ts ++ ls).Perm xs ∧ Dn n h h' ∧ e = [some (.ref n), some (.ref c), some (.ref h.length), some (.ref (h.length + 1)), e4] ∧ hh = h' ++ [Cell.lst (ls.map .d), Cell.lst (ts.map .d)])
    ⟨xs, [], none, h, rfl, List.Perm.refl _, .refl a, rfl, rfl⟩ (fun i e hh hi p => ?_) fun e hh p => ?_
  · obtain ⟨ls, ts, e4, h', rfl, pm, b, rfl, rfl⟩ := p
    have hl := pm.length_eq
    rw [List.length_append] at hl
    rw [← b.len]
    have g2 : (h' ++ [Cell.lst (ls.map .d), .lst (ts.map .d)])[h'.length]? = some (.lst (ls.map .d)) := gA0
    simp only [Pe.Pw.ws, List.set_cons_zero, List.set_cons_succ, List.length_cons, List.length_nil, List.map_cons, List.map_nil, List.cons_append, List.nil_append, List.replicate_succ, List.replicate_zero, Nat.reduceSub, Nat.reduceAdd, Nat.reduceLT, true_and, and_true, if_true, Bool.false_eq_true, if_false, true_implies, false_implies, forall_const, decide_eq_true_eq, decide_eq_false_iff_not, Bool.not_eq_true', Bool.not_eq_false', reduceCtorEq, w_lenR g2, List.length_map]
    refine take_w it (by omega) (b.dr a).app fun r g3 r0 r1 b1 => ?_
    obtain ⟨h1, rfl, c1⟩ := b1.split (by rw [b.len]; exact hn)
    have d1 := b.trans c1
    rw [show h'.length = h1.length by rw [b.len, d1.len]]
    obtain ⟨j, rfl⟩ := Int.eq_ofNat_of_zero_le r0
    have hj : j < ls.length := by omega
    have g4 : (h1 ++ [Cell.lst (ls.map .d), .lst (ts.map .d)])[h1.length]? = some (.lst (ls.map .d)) := gA0
    have ej : L2.ixN (ls.map PV.d).length (j : Int) = some j := by
      unfold L2.ixN
      rw [if_pos (by omega), if_pos (by rw [List.length_map]; omega), Int.toNat_natCast]
    have ev : (ls.map PV.d)[j]? = some (.d ls[j]) := by
      rw [List.getElem?_map, List.getElem?_eq_getElem hj]
      rfl
    have em : (ls.map PV.d).eraseIdx j = (ls.eraseIdx j).map .d := by
      rw [map_erase]
    have g5 : (h1 ++ [Cell.lst ((ls.eraseIdx j).map .d), .lst (ts.map .d)])[h1.length + 1]? = some (.lst (ts.map .d)) := gA
    have z1 : (ts.map PV.d).length < sizeLine := by rw [List.length_map]; omega
    simp only [Pe.Pw.ws, List.set_cons_zero, List.set_cons_succ, List.length_cons, List.length_nil, List.map_cons, List.map_nil, List.cons_append, List.nil_append, List.replicate_succ, List.replicate_zero, Nat.reduceSub, Nat.reduceAdd, Nat.reduceLT, true_and, and_true, if_true, Bool.false_eq_true, if_false, true_implies, false_implies, forall_const, decide_eq_true_eq, decide_eq_false_iff_not, Bool.not_eq_true', Bool.not_eq_false', reduceCtorEq, w_popAt g4 ej ev ⟨by omega, by omega⟩, em, sA0, w_app g5 z1, sA]
    refine ⟨ls.eraseIdx j, ts ++ [ls[j]], some (.d (.int (0 + (ts.length : Int)))), h1, by simp, ?_, d1, by rw [d1.len], by simp⟩
    refine List.Perm.trans ?_ pm
    rw [List.append_assoc]
    refine List.Perm.append_left _ ?_
    exact perm_erase ls j hj
  · obtain ⟨ls, ts, e4, h', hl, pm, b, rfl, rfl⟩ := p
    have h2 := pm.length_eq
    rw [List.length_append] at h2
    have e0 : ls = [] := List.length_eq_zero_iff.mp (by omega)
    subst e0
    rw [List.append_nil] at pm
    rw [← b.len]
    simp only [Pe.Pw.ws, List.set_cons_zero, List.set_cons_succ, List.length_cons, List.length_nil, List.map_cons, List.map_nil, List.cons_append, List.nil_append, List.replicate_succ, List.replicate_zero, Nat.reduceSub, Nat.reduceAdd, Nat.reduceLT, true_and, and_true, if_true, Bool.false_eq_true, if_false, true_implies, false_implies, forall_const, decide_eq_true_eq, decide_eq_false_iff_not, Bool.not_eq_true', Bool.not_eq_false', reduceCtorEq]
    have g6 : (h' ++ [Cell.lst (([] : List D).map .d), .lst (ts.map .d)])[h'.length + 1]? = some (.lst (ts.map .d)) := gA
    rw [show (h' ++ [Cell.lst [], .lst (ts.map .d)]) = (h' ++ [Cell.lst (([] : List D).map .d), .lst (ts.map .d)]) from rfl, lv_own (Nat.le_add_right _ _) g6, List.take_left]
    exact q ts h' pm b
end
end Pe.Pw
/-! Pe: the places nearest 0 of a table (told_places, _law_told). -/
namespace Pe.Pw
open PySem
/-! plain -/
section
variable {FT : List Fn} {h : Hs} {Q : PV → Hs → Prop} {n d f : Nat} {M : Mx} {ns : List Nat} {m : Nat}
theorem fm_ints {α : Type} (g : α → Option Int) (l : List α) : l.filterMap (fun x => (g x).map fun t => PV.d (.int t)) = ((l.filterMap g).map D.int).map PV.d := by
  rw [List.map_map, List.map_filterMap]
  rfl
theorem at_rng {α : Type} {g : Nat → α} {x : Nat} (hx : x < m) : L2.atI ((List.range m).map g) (x : Int) = some (g x) := by
  rw [atI_map, atI_nat, List.getElem?_range hx]
  rfl
end
end Pe.Pw
/-! Pe: ways of just k arcs, the first way of least arcs, its names. Plain. -/
namespace Pe.Pw
open PySem
/-! ways with their number of arcs -/
inductive Wn (A : List Clo.Arc) : Nat → Nat → Nat → Int → Prop
  | nil (x : Nat) : Wn A 0 x x 0
  | cons {k a b y : Nat} {w v : Int} (h : (a, b, w) ∈ A) (t : Wn A k b y v) : Wn A (k + 1) a y (w + v)
theorem Wn.way {A : List Clo.Arc} {k x y : Nat} {v : Int} (w : Wn A k x y v) : Clo.Way A x y v := by
  induction w with
  | nil x => exact .nil x
  | cons h _ ih => exact .cons h ih
/-- with all its marks -/
inductive Sw (A : List Clo.Arc) : List Nat → Nat → Nat → Int → Prop
  | nil (x : Nat) : Sw A [x] x x 0
  | cons {l : List Nat} {a b y : Nat} {w v : Int} (h : (a, b, w) ∈ A) (t : Sw A l b y v) : Sw A (a :: l) a y (w + v)
theorem Sw.wn {A : List Clo.Arc} {l : List Nat} {x y : Nat} {v : Int} (w : Sw A l x y v) : Wn A (l.length - 1) x y v := by
  induction w with
  | nil x => exact .nil x
  | @cons l a b y w v h t ih =>
    have : (a :: l).length - 1 = (l.length - 1) + 1 := by
      cases t <;> rfl
    rw [this]
    exact .cons h ih
theorem Sw.split {A : List Clo.Arc} {l : List Nat} {x y z : Nat} {v : Int} (w : Sw A l x y v) (hz : z ∈ l) (nd : l.Nodup) : ∃ l2 p u, Sw A l2 z y u ∧ Clo.Way A x z p ∧ v = p + u ∧ l2.Nodup ∧ ∀ q ∈ l2, q ∈ l := by
  induction w with
  | nil x =>
    rw [List.mem_singleton.mp hz]
    exact ⟨[x], 0, 0, .nil x, .nil x, rfl, nd, fun _ h => h⟩
  | @cons l a b y w v h t ih =>
    rcases List.mem_cons.mp hz with e | e
    · subst e
      exact ⟨z :: l, 0, w + v, .cons h t, .nil z, by omega, nd, fun _ h => h⟩
    · obtain ⟨l2, p, u, s, wy, e2, n2, sub⟩ := ih e (List.nodup_cons.mp nd).2
      exact ⟨l2, w + p, u, s, .cons h wy, by omega, n2, fun q hq => List.mem_cons_of_mem _ (sub q hq)⟩
/-! the tables -/
def relax (T : Clo.Tb) (U : Clo.Tb) (r : Ar) : Clo.Tb := fun x y => if x = r.a then sh1 (U x y) r.w (T r.b y) else U x y
def longT (as : List Ar) (T : Clo.Tb) : Clo.Tb := as.foldl (relax T) fun _ _ => none
def wkT (as : List Ar) : Nat → Clo.Tb
  | 0 => fun x y => if x = y then some 0 else none
  | k + 1 => longT as (wkT as k)
/-! names -/
def fitA (F : Clo.Tb) (now goal : Nat) (L : Int) (r : Ar) : Bool := decide (r.a = now) && match F r.b goal with
  | some t => decide (r.w + t < L)
  | none => false
def pickA (as : List Ar) (F : Clo.Tb) (now goal : Nat) (L : Int) : Option Ar := as.find? (fitA F now goal L)
def namesP (as : List Ar) : Nat → Nat → Nat → Int → List Ar
  | 0, _, _, _ => []
  | k + 1, now, goal, L => match pickA as (wkT as k) now goal L with
    | some r => r :: namesP as k r.b goal (L - r.w)
    | none => namesP as k now goal L
end Pe.Pw
/-! Pe: longer_walks, _law_longer. -/
namespace Pe.Pw
open PySem
def Inn (m a j : Nat) (w : Int) (U : Clo.Tb) (A : Nat → Option Int) (G : Clo.Tb) : Prop := ∀ x y, x < m → y < m → G x y = if x = a ∧ y < j then sh1 (U x y) w (A y) else U x y
section
variable {m a j : Nat} {w : Int} {U G : Clo.Tb} {A : Nat → Option Int}
theorem Inn.at_ (i : Inn m a j w U A G) (ha : a < m) (hj : j < m) : G a j = U a j := by rw [i a j ha hj, if_neg (by omega)]
theorem Inn.set (i : Inn m a j w U A G) : Inn m a (j + 1) w U A (Clo.upd G a j (sh1 (U a j) w (A j))) := fun x y hx hy => by
  unfold Clo.upd
  by_cases h : x = a ∧ y = j
  · obtain ⟨rfl, rfl⟩ := h
    rw [if_pos ⟨rfl, rfl⟩, if_pos ⟨rfl, by omega⟩]
  · rw [if_neg h, i x y hx hy]
    by_cases h2 : x = a ∧ y < j
    · rw [if_pos h2, if_pos ⟨h2.1, by omega⟩]
    · rw [if_neg h2, if_neg (fun c => by
        have : y ≠ j := fun e => h ⟨c.1, e⟩
        exact h2 ⟨c.1, by omega⟩)]
theorem Inn.keep (i : Inn m a j w U A G) (e : sh1 (U a j) w (A j) = U a j) : Inn m a (j + 1) w U A G := fun x y hx hy => by
  rw [i x y hx hy]
  by_cases h2 : x = a ∧ y < j
  · rw [if_pos h2, if_pos ⟨h2.1, by omega⟩]
  · rw [if_neg h2]
    by_cases h : x = a ∧ y = j
    · obtain ⟨rfl, rfl⟩ := h
      rw [if_pos ⟨rfl, by omega⟩, e]
    · rw [if_neg (fun c => by
        have : y ≠ j := fun e => h ⟨c.1, e⟩
        exact h2 ⟨c.1, by omega⟩)]
theorem Inn.zero (e : ∀ x y, x < m → y < m → G x y = U x y) : Inn m a 0 w U A G := fun x y hx hy => by rw [e x y hx hy, if_neg (by omega)]
end
section
variable {FT : List Fn} {h : Hs} {Q : PV → Hs → Prop} {n d f : Nat} {M : Mx} {ns : List Nat} {m : Nat}
theorem St.old {hh : Hs} (s : St h hh m M) {i : Nat} {c : Cell} (e : h[i]? = some c) : hh[i]? = some c := by
  have hi := (List.getElem?_eq_some_iff.mp e).1
  have := s.pre
  rw [← this, List.getElem?_take_of_lt hi] at e
  exact e
theorem St.mx {hh : Hs} {M' : Mx} (s : St h hh m M') (a : MxAt h n M ns) : MxAt hh n M ns := a.keep fun _ _ e _ => s.old e
end
end Pe.Pw
/-! Pe: first_names, _law_names. -/
namespace Pe.Pw
open PySem
/-- the cell t holds the tables of the ways of 0 .. K arcs -/
structure Wt (hh : Hs) (t : Nat) (as : List Ar) (m K : Nat) (os : List Nat) : Prop where
  cell : hh[t]? = some (.lst (os.map .ref))
  len : os.length = K + 1
  tab : ∀ k o, os[k]? = some o → ∃ M ns, MxAt hh o M ns ∧ Sq m M ∧ ∀ x y, x < m → y < m → gt M x y = wkT as k x y
section
variable {FT : List Fn} {h : Hs} {Q : PV → Hs → Prop} {n d f t m K : Nat} {as : List Ar} {os : List Nat}
theorem Wt.keep {h' : Hs} (w : Wt h t as m K os) (k : ∀ (i : Nat) (c : Cell), h[i]? = some c → h'[i]? = some c) : Wt h' t as m K os :=
  ⟨k _ _ w.cell, w.len, fun i o e => by
    obtain ⟨M, ns, a, s, g⟩ := w.tab i o e
    exact ⟨M, ns, a.keep fun i c e _ => k i c e, s, g⟩⟩
theorem Wt.app {es : Hs} (w : Wt h t as m K os) : Wt (h ++ es) t as m K os := w.keep fun i c e => by
  rw [List.getElem?_append_left (List.getElem?_eq_some_iff.mp e).1]
  exact e
theorem Wt.rd (w : Wt h t as m K os) {k x y : Nat} (hk : k ≤ K) (hx : x < m) (hy : y < m) {R : PV → Hs → Prop} : (Wp (idxV (.ref t) (.d (.int (k : Nat)))) h fun v h1 => Wp (idxV v (.d (.int (x : Nat)))) h1 fun v h1 => Wp (idxV v (.d (.int (y : Nat)))) h1 R) ↔ R (.d (oi (wkT as k x y))) h := by
  have hl := w.len
  have e : os[k]? = some os[k] := List.getElem?_eq_getElem (by omega)
  obtain ⟨M, ns, a, s, g⟩ := w.tab k _ e
  have ea : L2.atI (os.map PV.ref) (k : Int) = some (.ref os[k]) := by
    rw [atI_map, atI_nat, e]
    rfl
  rw [w_ixR w.cell ea, a.rd s hx hy, g x y hx hy]
end
end Pe.Pw
/-! Pe: first_way. -/
namespace Pe.Pw
open PySem
section
variable {FT : List Fn} {h : Hs} {Q : PV → Hs → Prop} {n d f t m K : Nat} {as : List Ar} {os : List Nat} {M : Mx}
/-- the tables while they are made -/
structure Wb (hh : Hs) (t : Nat) (as : List Ar) (m K : Nat) (os : List Nat) : Prop where
  cell : hh[t]? = some (.lst (os.map .ref))
  len : os.length = K + 1
  tab : ∀ k o, os[k]? = some o → ∃ M ns, MxAt hh o M ns ∧ Sq m M ∧ (∀ x y, x < m → y < m → gt M x y = wkT as k x y) ∧ o ≠ t ∧ t ∉ ns
theorem Wb.push (w : Wb h t as m K os) (s : Sq m M) (g : ∀ x y, x < m → y < m → gt M x y = wkT as (K + 1) x y) :
    Wb ((h ++ M.map rowC ++ [Cell.lst ((List.range' h.length M.length).map .ref)]).set t (.lst ((os ++ [h.length + M.length]).map .ref))) t as m (K + 1) (os ++ [h.length + M.length]) := by
  have ht := (List.getElem?_eq_some_iff.mp w.cell).1
  have other : ∀ (i : Nat) (c : Cell), i ≠ t → (h ++ M.map rowC ++ [Cell.lst ((List.range' h.length M.length).map .ref)])[i]? = some c → ((h ++ M.map rowC ++ [Cell.lst ((List.range' h.length M.length).map .ref)]).set t (.lst ((os ++ [h.length + M.length]).map .ref)))[i]? = some c := fun i c hi e => by
    rw [List.getElem?_set_ne (Ne.symm hi)]
    exact e
  refine ⟨List.getElem?_set_self (by simp only [List.length_append]; omega), by simp [w.len], fun k o e => ?_⟩
  by_cases hk : k < os.length
  · rw [List.getElem?_append_left hk] at e
    obtain ⟨M2, ns, a, s2, g2, n1, n2⟩ := w.tab k o e
    refine ⟨M2, ns, a.keep fun i c ei hi => other i c (fun z => ?_) ?_, s2, g2, n1, n2⟩
    · rcases hi with hi | hi
      · exact n1 (hi ▸ z)
      · exact n2 (z ▸ hi)
    · rw [List.append_assoc, List.getElem?_append_left (List.getElem?_eq_some_iff.mp ei).1]
      exact ei
  · have hk2 := (List.getElem?_eq_some_iff.mp e).1
    have wl := w.len
    rw [List.length_append, List.length_singleton] at hk2
    obtain rfl : k = K + 1 := by omega
    rw [List.getElem?_append_right (by omega), show K + 1 - os.length = 0 by omega] at e
    cases e
    have tn : t ∉ List.range' h.length M.length := fun z => by
      have := List.mem_range'_1.mp z
      omega
    refine ⟨M, List.range' h.length M.length, mx_new.keep fun i c ei hi => other i c (fun z => ?_) ei, s, g, by omega, tn⟩
    subst z
    rcases hi with hi | hi
    · omega
    · exact tn hi
end
end Pe.Pw
/-! Pe: _law_walks. -/
namespace Pe.Pw
open PySem
abbrev Tc := Nat × List Nat × Mx
/-- own tables in own cells -/
structure Wc (fb : Nat) (hh : Hs) (t m : Nat) (ts : List Tc) : Prop where
  cell : hh[t]? = some (.lst ((ts.map fun x => x.1).map .ref))
  tab : ∀ x ∈ ts, MxAt hh x.1 x.2.2 x.2.1 ∧ Sq m x.2.2
  ft : fb ≤ t
  fs : ∀ x ∈ ts, fb ≤ x.1 ∧ ∀ j ∈ x.2.1, fb ≤ j
  nd : (t :: ts.flatMap fun x => x.1 :: x.2.1).Nodup
section
variable {FT : List Fn} {h : Hs} {Q : PV → Hs → Prop} {n d f t m K fb : Nat} {as : List Ar} {os : List Nat} {M : Mx} {ts : List Tc}
theorem MxAt.lt (a : MxAt h n M os) (s : Sq m M) : n < h.length ∧ ∀ j ∈ os, j < h.length := by
  refine ⟨(List.getElem?_eq_some_iff.mp a.cell).1, fun j hj => ?_⟩
  obtain ⟨i, hi, e⟩ := List.getElem_of_mem hj
  have hi2 : i < M.length := by rw [← a.len]; exact hi
  exact (List.getElem?_eq_some_iff.mp (a.rows i j M[i] (by rw [List.getElem?_eq_getElem hi, e]) (List.getElem?_eq_getElem hi2))).1
theorem Wc.not_t (w : Wc fb h t m ts) {x : Tc} (hx : x ∈ ts) : x.1 ≠ t ∧ t ∉ x.2.1 := by
  have := (List.nodup_cons.mp w.nd).1
  refine ⟨fun z => this (List.mem_flatMap.mpr ⟨x, hx, ?_⟩), fun z => this (List.mem_flatMap.mpr ⟨x, hx, List.mem_cons_of_mem _ z⟩)⟩
  rw [z]
  exact List.mem_cons_self
theorem Wc.push (w : Wc fb h t m ts) (s : Sq m M) : Wc fb ((h ++ M.map rowC ++ [Cell.lst ((List.range' h.length M.length).map .ref)]).set t (.lst (((ts.map fun x => x.1).map .ref) ++ [.ref (h.length + M.length)]))) t m (ts ++ [(h.length + M.length, List.range' h.length M.length, M)]) := by
  have ht := (List.getElem?_eq_some_iff.mp w.cell).1
  have fb' := w.ft
  have other : ∀ (i : Nat) (c : Cell), i ≠ t → (h ++ M.map rowC ++ [Cell.lst ((List.range' h.length M.length).map .ref)])[i]? = some c → ((h ++ M.map rowC ++ [Cell.lst ((List.range' h.length M.length).map .ref)]).set t (.lst (((ts.map fun x => x.1).map .ref) ++ [.ref (h.length + M.length)])))[i]? = some c := fun i c hi e => by
    rw [List.getElem?_set_ne (Ne.symm hi)]
    exact e
  have tn : t ∉ List.range' h.length M.length := fun z => by
    have := List.mem_range'_1.mp z
    omega
  refine ⟨?_, fun x hx => ?_, w.ft, fun x hx => ?_, ?_⟩
  · rw [List.getElem?_set_self (by simp only [List.length_append]; omega)]
    simp
  · rcases List.mem_append.mp hx with hx | hx
    · have nt := w.not_t hx
      refine ⟨(w.tab x hx).1.keep fun i c ei hi => other i c (fun z => ?_) ?_, (w.tab x hx).2⟩
      · rcases hi with hi | hi
        · exact nt.1 (hi ▸ z)
        · exact nt.2 (z ▸ hi)
      · rw [List.append_assoc, List.getElem?_append_left (List.getElem?_eq_some_iff.mp ei).1]
        exact ei
    · rw [List.mem_singleton.mp hx]
      refine ⟨mx_new.keep fun i c ei hi => other i c (fun z => ?_) ei, s⟩
      subst z
      rcases hi with hi | hi
      · omega
      · exact tn hi
  · rcases List.mem_append.mp hx with hx | hx
    · exact w.fs x hx
    · rw [List.mem_singleton.mp hx]
      refine ⟨by dsimp only; omega, fun j hj => ?_⟩
      have := List.mem_range'_1.mp hj
      omega
  · have bd : ∀ y ∈ t :: ts.flatMap (fun x => x.1 :: x.2.1), y < h.length := fun y hy => by
      rcases List.mem_cons.mp hy with rfl | hy
      · exact ht
      · obtain ⟨x, hx, hy⟩ := List.mem_flatMap.mp hy
        have lt := (w.tab x hx).1.lt (w.tab x hx).2
        rcases List.mem_cons.mp hy with rfl | hy
        · exact lt.1
        · exact lt.2 y hy
    rw [List.flatMap_append, ← List.cons_append, List.nodup_append]
    have on := (own_new (h := h) (k := M.length)).nd
    refine ⟨w.nd, by simpa using on, fun a ha b hb => ?_⟩
    have := bd a ha
    simp only [List.flatMap_cons, List.flatMap_nil, List.append_nil, List.mem_cons] at hb
    rcases hb with rfl | hb
    · omega
    · have := List.mem_range'_1.mp hb
      omega
theorem mapRefs_tabs : ∀ (ts : List Tc), (∀ x ∈ ts, MxAt h x.1 x.2.2 x.2.1 ∧ Sq m x.2.2) → (∀ x ∈ ts, fb ≤ x.1 ∧ ∀ j ∈ x.2.1, fb ≤ j) → mapRefs (resR fb h 3) ((ts.map fun x => x.1).map .ref) = some (ts.map fun x => mxV x.2.2, ts.flatMap fun x => x.1 :: x.2.1)
  | [], _, _ => rfl
  | x :: ts, ht, hf => by
    have ih := mapRefs_tabs ts (fun y hy => ht y (List.mem_cons_of_mem _ hy)) fun y hy => hf y (List.mem_cons_of_mem _ hy)
    have a := (ht x List.mem_cons_self).1
    have ff := hf x List.mem_cons_self
    have one : mapRef (resR fb h 3) (.ref x.1) = some (mxV x.2.2, x.1 :: x.2.1) := by
      show (if x.1 < fb then some (PV.ref x.1, []) else match h[x.1]? with
        | some (.lst xs) => match mapRefs (resR fb h 2) xs with
          | some (ys, l) => some (PV.tl ys, x.1 :: l)
          | none => none
        | none => none) = _
      rw [if_neg (by omega), a.cell]
      dsimp only
      rw [mapRefs_rows x.2.1 x.2.2 a.len ff.2 a.rows]
      rfl
    show (match mapRef (resR fb h 3) (.ref x.1), mapRefs (resR fb h 3) ((ts.map fun x => x.1).map PV.ref) with
      | some (y, l), some (ys, l2) => some (y :: ys, l ++ l2)
      | _, _ => none) = _
    rw [one, ih]
    rfl
theorem Wc.lv (w : Wc fb h t m ts) : Lv fb Q (.rt (.ref t)) h ↔ Q (.tl (ts.map fun x => mxV x.2.2)) (h.take fb) := by
  have e : leave fb (.ref t) h = some (.tl (ts.map fun x => mxV x.2.2), h.take fb) := by
    unfold leave
    have : mapRef (resR fb h 4) (.ref t) = some (.tl (ts.map fun x => mxV x.2.2), t :: ts.flatMap fun x => x.1 :: x.2.1) := by
      show (if t < fb then some (PV.ref t, []) else match h[t]? with
        | some (.lst xs) => match mapRefs (resR fb h 3) xs with
          | some (ys, l) => some (PV.tl ys, t :: l)
          | none => none
        | none => none) = _
      rw [if_neg (by have := w.ft; omega), w.cell]
      dsimp only
      rw [mapRefs_tabs ts w.tab w.fs]
    rw [this]
    dsimp only
    rw [if_pos w.nd]
  exact ⟨fun ⟨_, _, e2, q⟩ => by rw [e] at e2; cases e2; exact q, fun q => ⟨_, _, e, q⟩⟩
end
end Pe.Pw
/-! Pe: nearest places of a table that came in as a value; an arc that is no news. -/
namespace Pe.Pw
open PySem
section
variable {FT : List Fn} {h : Hs} {Q : PV → Hs → Prop} {n d f : Nat} {M : Mx} {ns : List Nat} {m : Nat}
end
end Pe.Pw
/-! Pe: sides of readings; ways told by sides. -/
namespace Pe.Pw
open PySem
section
variable {FT : List Fn} {h : Hs} {Q : PV → Hs → Prop} {n d f m : Nat} {rs : List Rd} {r : Ar}
end
end Pe.Pw
/-! Pe: bound_way, bound_places, _law_way. -/
namespace Pe.Pw
open PySem
section
variable {FT : List Fn} {h : Hs} {Q : PV → Hs → Prop} {n d f m : Nat} {rs : List Rd} {T : Clo.Tb} {x y : Nat}
end
end Pe.Pw
/-! Pe: rings below 0: a clash has one of at most m arcs; a first one names each mark once. Plain. -/
namespace Pe.Pw
open PySem
theorem Wn.app {A : List Clo.Arc} {k l x y z : Nat} {v u : Int} (w : Wn A k x y v) (t : Wn A l y z u) : Wn A (k + l) x z (v + u) := by
  induction w with
  | nil x => rw [Nat.zero_add, Int.zero_add]; exact t
  | @cons k a b y w v h _ ih =>
    rw [show k + 1 + l = (k + l) + 1 by omega, Int.add_assoc]
    exact .cons h (ih t)
/-- a simple way cut at one of its marks -/
theorem Sw.cut {A : List Clo.Arc} {l : List Nat} {x y z : Nat} {v : Int} (w : Sw A l x y v) (hz : z ∈ l) (nd : l.Nodup) : ∃ l1 l2 p u, Sw A l2 z y u ∧ Sw A l1 x z p ∧ v = p + u ∧ l2.Nodup ∧ (∀ q ∈ l2, q ∈ l) ∧ l1.Nodup ∧ (∀ q ∈ l1, q ∈ l) := by
  induction w with
  | nil x =>
    rw [List.mem_singleton.mp hz]
    exact ⟨[x], [x], 0, 0, .nil x, .nil x, rfl, nd, fun _ h => h, nd, fun _ h => h⟩
  | @cons l a b y w v h t ih =>
    by_cases e : z = a
    · subst e
      exact ⟨[z], z :: l, 0, w + v, .cons h t, .nil z, by omega, nd, fun _ h => h, List.nodup_cons.mpr ⟨List.not_mem_nil, List.nodup_nil⟩, fun q hq => by rw [List.mem_singleton.mp hq]; exact List.mem_cons_self⟩
    · have hz' : z ∈ l := (List.mem_cons.mp hz).resolve_left e
      obtain ⟨l1, l2, p, u, s2, s1, e2, n2, sub2, n1, sub1⟩ := ih hz' (List.nodup_cons.mp nd).2
      refine ⟨a :: l1, l2, w + p, u, s2, .cons h s1, by omega, n2, fun q hq => List.mem_cons_of_mem _ (sub2 q hq), List.nodup_cons.mpr ⟨fun c => (List.nodup_cons.mp nd).1 (sub1 a c), n1⟩, fun q hq => ?_⟩
      rcases List.mem_cons.mp hq with e | e
      · rw [e]; exact List.mem_cons_self
      · exact List.mem_cons_of_mem _ (sub1 q e)
/-! names of a ring -/
end Pe.Pw
/-! Pe: is_below, ring_names. -/
namespace Pe.Pw
open PySem
def lightA (F : Clo.Tb) (L : Int) (r : Ar) : Bool := match F r.b r.a with
  | some t => decide (r.w + t < L)
  | none => false
def ringP (as : List Ar) (K : Nat) (L : Int) (r : Ar) : List Ar := r :: namesP as K r.b r.a (L - r.w)
section
variable {FT : List Fn} {h : Hs} {Q : PV → Hs → Prop} {n d f : Nat}
theorem Wt.cut {t m K : Nat} {as : List Ar} {os : List Nat} (w : Wt h t as m (K + 1) os) : Wt (h ++ [.lst ((os.take (K + 1)).map .ref)]) h.length as m K (os.take (K + 1)) := by
  have wl := w.len
  refine ⟨List.getElem?_concat_length .., by rw [List.length_take]; omega, fun k o e => ?_⟩
  have hk : k < K + 1 := by
    have := (List.getElem?_eq_some_iff.mp e).1
    rw [List.length_take] at this
    omega
  rw [List.getElem?_take_of_lt hk] at e
  obtain ⟨M, ns, a, s, g⟩ := w.tab k o e
  exact ⟨M, ns, a.app, s, g⟩
end
end Pe.Pw
/-! Pe: first_light_ring, _law_light. -/
namespace Pe.Pw
open PySem
def lightK (as : List Ar) (K : Nat) (L : Int) : Option Ar := as.find? (lightA (wkT as K) L)
/-- the due ring -/
def LightIs (m : Nat) (as : List Ar) (L : Int) (v : D) : Prop := (v = .non ∧ ∀ K, K < m → lightK as K L = none) ∨ ∃ K r, K < m ∧ lightK as K L = some r ∧ (∀ K', K' < K → lightK as K' L = none) ∧ v = .tup ((ringP as K L r).map Ar.s)
section
variable {FT : List Fn} {h : Hs} {Q : PV → Hs → Prop} {n d f m : Nat} {as : List Ar}
end
end Pe.Pw
/-! Pe: _law_light. -/
namespace Pe.Pw
open PySem
section
variable {FT : List Fn} {h : Hs} {Q : PV → Hs → Prop} {n d f m : Nat} {as : List Ar}
end
end Pe.Pw
/-! Pe: drawn readings join two marks. -/
namespace Pe.Pw
open PySem
section
variable {FT : List Fn} {h : Hs} {Q : PV → Hs → Prop} {n d f : Nat}
end
end Pe.Pw
/-! Pe: the first light ring below 0 names each reading once. Plain. -/
namespace Pe.Pw
open PySem
/-- the number of an arc's reading -/
def ixA (r : Ar) : Nat := match r.s with
  | .tup (.int i :: _) => i.toNat
  | _ => 0
/-- drawn readings: two marks, low at most high -/
def Rd.ok (r : Rd) : Prop := r.a ≠ r.b ∧ ∀ u v, r.lo = some u → r.hi = some v → u ≤ v
end Pe.Pw
/-! Pe: sets of readings that clash. -/
namespace Pe.Pw
open PySem
def nsD (js : List Nat) : List D := js.map fun j => D.int (j : Nat)
section
variable {FT : List Fn} {h : Hs} {Q : PV → Hs → Prop} {n d f m : Nat} {rs : List Rd} {js : List Nat}
/-- what uppers_of leans on -/
structure Ups (FT : List Fn) (uo : Nat) : Prop where
  ex : ∃ al fr ao wi sh ra, Is FT uo 2 2 (uppersOfB al fr ao) ∧ Is FT al 2 7 (alongBd wi) ∧ Is FT fr 1 3 freeB ∧ Is FT ao 1 4 (arcsOfB ra) ∧ Is FT ra 2 7 rarcsB ∧ Is FT wi 4 8 (withB sh) ∧ Is FT sh 3 6 shorterB
end
end Pe.Pw
/-! Pe: least sets that clash. -/
namespace Pe.Pw
open PySem
section
variable {FT : List Fn} {h : Hs} {Q : PV → Hs → Prop} {n d f m : Nat} {rs : List Rd} {js : List Nat}
end
end Pe.Pw
/-! Pe: sets of indexes; the told clash as a set. -/
namespace Pe.Pw
open PySem
theorem mem_insU {x y : Int} : ∀ {ys : List Int}, y ∈ insU x ys ↔ y = x ∨ y ∈ ys
  | [] => by simp [insU]
  | z :: ys => by
    unfold insU
    split
    · simp
    · split
      · rename_i h
        subst h
        simp
      · simp only [List.mem_cons, mem_insU (ys := ys)]
        constructor
        · rintro (h | h | h)
          · exact .inr (.inl h)
          · exact .inl h
          · exact .inr (.inr h)
        · rintro (h | h | h)
          · exact .inr (.inl h)
          · exact .inl h
          · exact .inr (.inr h)
theorem insU_sorted {x : Int} : ∀ {ys : List Int}, ys.Pairwise (· < ·) → (insU x ys).Pairwise (· < ·)
  | [], _ => by simp [insU]
  | z :: ys, h => by
    obtain ⟨h1, h2⟩ := List.pairwise_cons.mp h
    unfold insU
    split
    · rename_i lt
      refine List.pairwise_cons.mpr ⟨fun a ha => ?_, h⟩
      rcases List.mem_cons.mp ha with rfl | ha
      · exact lt
      · exact Int.lt_trans lt (h1 a ha)
    · split
      · exact h
      · refine List.pairwise_cons.mpr ⟨fun a ha => ?_, insU_sorted h2⟩
        rcases mem_insU.mp ha with rfl | ha
        · omega
        · exact h1 a ha
theorem setI_sorted : ∀ (ns : List Int), (setI ns).Pairwise (· < ·)
  | [] => .nil
  | n :: ns => insU_sorted (setI_sorted ns)
theorem mem_setI {y : Int} : ∀ {ns : List Int}, y ∈ setI ns ↔ y ∈ ns
  | [] => Iff.rfl
  | n :: ns => by
    show y ∈ insU n (setI ns) ↔ _
    rw [mem_insU, mem_setI, List.mem_cons]
section
variable {FT : List Fn} {h : Hs} {Q : PV → Hs → Prop} {n d f m : Nat} {rs : List Rd} {js : List Nat} {v : D}
theorem w_sortL {ns : List Int} : Wp (bltV .sorted [.tl ((ns.map D.int).map .d)]) h Q ↔ Q (.tl (((sortI ns).map D.int).map .d)) h := w_iff (by
  have e : intsOf ((ns.map D.int).map .d) = some ns := by rw [List.map_map]; exact intsOf_map ns
  have e2 : ((sortI ns).map fun i => PV.d (.int i)) = ((sortI ns).map D.int).map .d := by rw [List.map_map]; rfl
  show (intsOf ((ns.map D.int).map .d)).map (fun ns => (PV.tl ((sortI ns).map fun i => .d (.int i)), h)) = _
  rw [e, Option.map_some, e2])
def indexSetB : List S := [.ret (.blt .tuple [(.blt .sorted [(.blt .list [(.dcomp [1] (.nm 1) (.seq (.var 0)) false (.cst (.bl true)) (.var 1) (.cst (.bl true)))])])])]
/-- what the told clash is as a set -/
inductive DueIs (m : Nat) (rs : List Rd) : D → D → Prop
  | no : LightIs m (allA 0 rs) 0 .non → DueIs m rs .non .non
  | ring {l : List Ar} {js : List Nat} : LightIs m (allA 0 rs) 0 (.tup (l.map Ar.s)) → (∀ r ∈ l, r ∈ allA 0 rs) → (l.map ixA).Nodup → 0 < l.length → l.length ≤ m → js.Perm (l.map ixA) → sortI ((l.map ixA).map fun j : Nat => (j : Int)) = (js.map fun j : Nat => (j : Int)) → DueIs m rs (.tup (l.map Ar.s)) (.tup (nsD js))
theorem DueIs.light {v w : D} (h : DueIs m rs v w) : LightIs m (allA 0 rs) 0 v := by
  cases h <;> assumption
end
end Pe.Pw
/-! Pe: is_ring, is_clash; a light ring below 0 is there just where the readings clash. -/
namespace Pe.Pw
open PySem
section
variable {FT : List Fn} {h : Hs} {Q : PV → Hs → Prop} {n d f m : Nat} {rs : List Rd} {l : List Ar}
end
end Pe.Pw
/-! Pe: tables of bounds that meet; hulls; tables within tables; stiff groups. -/
namespace Pe.Pw
open PySem
/-! arcs that tell the same least ways. Plain. -/
def Dom (A B : List Clo.Arc) : Prop := ∀ a b w, (a, b, w) ∈ A → ∃ v, Clo.Way B a b v ∧ v ≤ w
theorem Dom.way {A B : List Clo.Arc} (h : Dom A B) {x y : Nat} {u : Int} (w : Clo.Way A x y u) : ∃ v, Clo.Way B x y v ∧ v ≤ u := by
  induction w with
  | nil x => exact ⟨0, .nil x, Int.le_refl _⟩
  | @cons a b y w v m _ ih =>
    obtain ⟨p, wp, lp⟩ := h a b w m
    obtain ⟨q, wq, lq⟩ := ih
    exact ⟨p + q, wp.app wq, by omega⟩
theorem Dom.app {A B C : List Clo.Arc} (h : Dom A C) (g : Dom B C) : Dom (A ++ B) C := fun a b w m => by
  rcases List.mem_append.mp m with m | m
  · exact h a b w m
  · exact g a b w m
theorem Dom.trans {A B C : List Clo.Arc} (h : Dom A B) (g : Dom B C) : Dom A C := fun a b w m => by
  obtain ⟨v, wv, l⟩ := h a b w m
  obtain ⟨u, wu, l2⟩ := g.way wv
  exact ⟨u, wu, by omega⟩
theorem Dom.clash {m : Nat} {A B : List Clo.Arc} (h : Dom A B) (c : Clo.Clash m A) : Clo.Clash m B := by
  obtain ⟨x, v, hx, w, hv⟩ := c
  obtain ⟨u, wu, l⟩ := h.way w
  exact ⟨x, u, hx, wu, by omega⟩
/-! the readings that a table tells -/
/-! tables of data -/
section
variable {FT : List Fn} {h : Hs} {Q : PV → Hs → Prop} {n d f m : Nat} {rs : List Rd} {F G : Clo.Tb}
end
end Pe.Pw
/-! Pe: hulls, tables within tables. -/
namespace Pe.Pw
open PySem
section
variable {cf : Nat → List PV → M PV} {fb : Nat} {env : Env} {h : Hs} {I : ItV → Hs → Prop} {Q : PV → Hs → Prop}
end
section
variable {FT : List Fn} {h : Hs} {Q : PV → Hs → Prop} {n d f m : Nat} {rs : List Rd} {F G : Clo.Tb}
end
end Pe.Pw
/-! Pe: tables that meet; stiff groups. -/
namespace Pe.Pw
open PySem
section
variable {FT : List Fn} {h : Hs} {Q : PV → Hs → Prop} {n d f m : Nat} {rs : List Rd} {F G : Clo.Tb}
theorem w_clp {f : PV → M (Option PV)} {lo : Int} {n : Nat} {C : List PV → Hs → Prop} (p : Nat → Bool) (g : Nat → PV) (z : n ≤ sizeLine)
    (st : ∀ i, i < n → Wp (f (.d (.int (lo + (i : Nat))))) h fun o h1 => o = (if p i = true then some (g i) else none) ∧ h1 = h) (fin : C (((List.range n).filter p).map g) h) : Wp (cloop f (.rng lo n) ((ItV.rng lo n).fuel h) 0 []) h C := by
  refine w_clf (List.range n) (fun i : Nat => PV.d (.int (lo + (i : Int)))) (fun i => if p i = true then some (g i) else none) its_rng (by rw [List.length_range]; exact z) (fun i hi => st i (List.mem_range.mp hi)) ?_
  have : (List.range n).filterMap (fun i => if p i = true then some (g i) else none) = ((List.range n).filter p).map g := by
    generalize List.range n = l
    induction l with
    | nil => rfl
    | cons x l ih =>
      rw [List.filterMap_cons, List.filter_cons]
      cases p x with
      | true => simp [ih]
      | false => simp [ih]
  rw [this]
  exact fin
end
end Pe.Pw
/-! Pe: the law's own tables of readings that lie in a list. -/
namespace Pe.Pw
open PySem
section
variable {FT : List Fn} {h : Hs} {Q : PV → Hs → Prop} {n d f : Nat} {M : Mx} {ns : List Nat} {m : Nat}
end
end Pe.Pw
/-! Pe: things bent at drawn places. -/
namespace Pe.Pw
open PySem
/-- no truth values; at most N long, at most k deep -/
def Bd (N : Nat) : Nat → D → Prop
  | _, .non => True
  | _, .int _ => True
  | _, .bl _ => False
  | _, .str s => s.length ≤ N
  | 0, .tup _ => False
  | k + 1, .tup xs => xs.length ≤ N ∧ ∀ x ∈ xs, Bd N k x
theorem Bd.mono {N M : Nat} (h : N ≤ M) : ∀ {k l : Nat} {x : D}, k ≤ l → Bd N k x → Bd M l x
  | k, l, .non, _, _ => by cases l <;> exact True.intro
  | k, l, .int _, _, _ => by cases l <;> exact True.intro
  | k, l, .bl _, _, b => by cases k <;> exact b.elim
  | k, l, .str s, _, b => by
    have b : s.length ≤ N := by cases k <;> exact b
    cases l <;> exact Nat.le_trans b h
  | 0, l, .tup _, _, b => b.elim
  | k + 1, 0, .tup _, h2, _ => absurd h2 (by omega)
  | k + 1, l + 1, .tup xs, h2, b => ⟨Nat.le_trans b.1 h, fun x hx => Bd.mono h (Nat.le_of_succ_le_succ h2) (b.2 x hx)⟩
section
variable {FT : List Fn} {h : Hs} {Q : PV → Hs → Prop} {n d f : Nat}
theorem at_get {ds : List D} {j : Nat} (hj : j < ds.length) : L2.atI ds (j : Int) = some ds[j] := by
  rw [atI_nat, List.getElem?_eq_getElem hj]
end
end Pe.Pw
/-! Pe: what is a table of bounds. -/
namespace Pe.Pw
open PySem
section
variable {FT : List Fn} {h : Hs} {Q : PV → Hs → Prop} {n d f m : Nat} {rs : List Rd} {L H : Clo.Tb}
end
end Pe.Pw
/-! Pe: readings of the plane, turned. -/
namespace Pe.Pw
open PySem
structure Pr where
  a : Nat
  b : Nat
  al : Option Int
  ah : Option Int
  rl : Option Int
  rh : Option Int
def boD (l h : Option Int) : D := .tup [oi l, oi h]
def Pr.D (p : Pr) : D := .tup [.int (p.a : Nat), .int (p.b : Nat), boD p.al p.ah, boD p.rl p.rh]
def FsOk (m : Nat) (fs : List Nat) : Prop := fs.length = m ∧ ∀ f ∈ fs, f < 4
theorem FsOk.at {m : Nat} {fs : List Nat} (h : FsOk m fs) {k : Nat} (hk : k < m) : L2.atI (nsD fs) (k : Int) = some (.int (fs.getD k 0 : Nat)) ∧ fs.getD k 0 < 4 := by
  have hk2 : k < fs.length := by rw [h.1]; exact hk
  have e : fs.getD k 0 = fs[k] := by
    rw [List.getD_eq_getElem?_getD, List.getElem?_eq_getElem hk2]
    rfl
  rw [e]
  refine ⟨?_, h.2 _ (List.getElem_mem hk2)⟩
  unfold nsD
  rw [atI_nat, List.getElem?_map, List.getElem?_eq_getElem hk2]
  rfl
section
variable {FT : List Fn} {h : Hs} {Q : PV → Hs → Prop} {n d f m : Nat} {ps : List Pr} {fs : List Nat}
end
end Pe.Pw
/-! Pe: readings of the plane turned to lines; places and clashes of the plane. -/
namespace Pe.Pw
open PySem
section
variable {FT : List Fn} {h : Hs} {Q : PV → Hs → Prop} {n d f m : Nat} {ps : List Pr} {fs : List Nat}
/-! fits -/
end
end Pe.Pw
/-! Pe: places and clashes of the plane; what fits the plane. -/
namespace Pe.Pw
open PySem
section
variable {FT : List Fn} {h : Hs} {Q : PV → Hs → Prop} {n d f m : Nat} {ps : List Pr} {fs : List Nat}
end
end Pe.Pw
/-! Pe: what fits the plane. -/
namespace Pe.Pw
open PySem
section
variable {FT : List Fn} {h : Hs} {Q : PV → Hs → Prop} {n d f m : Nat} {ps : List Pr} {fs : List Nat} {X Y : List Rd}
end
end Pe.Pw
/-! Pe: readings of the plane, drawn. -/
namespace Pe.Pw
open PySem
def st2 (k : Nat) (x y : Int) : Int := if k = 0 then x else if k = 1 then -y else if k = 2 then -x else y
section
variable {FT : List Fn} {h : Hs} {Q : PV → Hs → Prop} {n d f m : Nat} {ps : List Pr} {fs : List Nat} {X Y : List Rd}
end
end Pe.Pw
/-! Pe: facings that fit. -/
namespace Pe.Pw
open PySem
section
variable {FT : List Fn} {h : Hs} {Q : PV → Hs → Prop} {n d f m : Nat} {ps : List Pr} {fs : List Nat}
end
end Pe.Pw
/-! Pe: facings that fit, and what they agree on. -/
namespace Pe.Pw
open PySem
theorem lt_len : ∀ (l : List Int) (a b : Int), l.Pairwise (· < ·) → (∀ x ∈ l, a ≤ x ∧ x < b) → (l.length : Int) ≤ max (b - a) 0
  | [], a, b, _, _ => by simp; omega
  | x :: l, a, b, h, q => by
    obtain ⟨h1, h2⟩ := List.pairwise_cons.mp h
    have ih := lt_len l (x + 1) b h2 fun y hy => ⟨by have := h1 y hy; omega, (q y (List.mem_cons_of_mem _ hy)).2⟩
    have := q x List.mem_cons_self
    rw [List.length_cons]
    omega
section
variable {FT : List Fn} {h : Hs} {Q : PV → Hs → Prop} {n d f m : Nat} {ps : List Pr} {fs : List Nat} {rows : List (List Nat)} {J : Nat → Bool}
end
end Pe.Pw
/-! Pe: the law's own tuples of facings, and what they agree on. -/
namespace Pe.Pw
open PySem
section
variable {FT : List Fn} {h : Hs} {Q : PV → Hs → Prop} {n d f m : Nat} {ps : List Pr} {fs js : List Nat} {rows : List (List Nat)} {J : Nat → Bool}
end
end Pe.Pw
/-! Pe: the law's own fitting facings, and readings drawn from some marks. -/
namespace Pe.Pw
open PySem
section
variable {FT : List Fn} {h : Hs} {Q : PV → Hs → Prop} {n d f m : Nat} {ps : List Pr} {fs js : List Nat} {rows : List (List Nat)} {J : Nat → Bool}
end
end Pe.Pw
/-! Pe: readings of rounds. -/
namespace Pe.Pw
open PySem
structure Ro where
  a : Nat
  b : Nat
  first : Int
  many : Int
def Ro.D (r : Ro) : D := .tup [.int (r.a : Nat), .int (r.b : Nat), .int r.first, .int r.many]
theorem sortI_set {ks is : List Int} (nd : ks.Nodup) (hm : ∀ k, k ∈ ks ↔ k ∈ is) : sortI ks = setI is := by
  unfold sortI
  have pm := List.mergeSort_perm ks fun a b => decide (a ≤ b)
  have st : (ks.mergeSort fun a b => decide (a ≤ b)).Pairwise fun a b => decide (a ≤ b) = true := List.pairwise_mergeSort (le := fun a b : Int => decide (a ≤ b)) (fun a b c h1 h2 => decide_eq_true (Int.le_trans (of_decide_eq_true h1) (of_decide_eq_true h2))) (fun a b => by
    rcases Int.le_total a b with h | h
    · rw [decide_eq_true h]; rfl
    · rw [decide_eq_true h]; simp) ks
  have nd2 := pm.nodup_iff.mpr nd
  refine lt_uniq ((st.and nd2).imp fun h => ?_) (Pe.setI_sorted is) fun k => by rw [pm.mem_iff, hm k, Pe.mem_setI]
  have := of_decide_eq_true h.1
  have := h.2
  omega
theorem putD_ints : ∀ (is ks : List Int), is.foldl (fun es (x : Int) => putD es (Sum.inl x) (D.bl true)) (ks.map fun k => ((Sum.inl k : Sum Int Str), D.bl true)) = (is.foldl (fun acc x => if x ∈ acc then acc else acc ++ [x]) ks).map fun k => (Sum.inl k, D.bl true)
  | [], ks => rfl
  | i :: is, ks => by
    rw [List.foldl_cons, List.foldl_cons]
    have hk : hasK (ks.map fun k => ((Sum.inl k : Sum Int Str), D.bl true)) (.inl i) = decide (i ∈ ks) := by
      unfold hasK
      rw [List.any_map]
      cases q : decide (i ∈ ks) with
      | true => exact List.any_eq_true.mpr ⟨i, of_decide_eq_true q, decide_eq_true rfl⟩
      | false =>
        cases q2 : ks.any ((fun p : Sum Int Str × D => decide (p.1 = Sum.inl i)) ∘ fun k => (Sum.inl k, D.bl true)) with
        | false => rfl
        | true =>
          obtain ⟨j, hj, e⟩ := List.any_eq_true.mp q2
          have : j = i := Sum.inl.inj (of_decide_eq_true e)
          rw [this] at hj
          rw [decide_eq_true hj] at q
          cases q
    by_cases h : i ∈ ks
    · rw [if_pos h, ← putD_ints is ks]
      congr 1
      unfold putD
      rw [hk, decide_eq_true h]
      rw [if_pos rfl, List.map_map]
      exact List.map_congr_left fun k _ => by
        show (if (Sum.inl k : Sum Int Str) = Sum.inl i then _ else _) = _
        split <;> rfl
    · rw [if_neg h, ← putD_ints is (ks ++ [i])]
      congr 1
      unfold putD
      rw [hk, decide_eq_false h]
      simp
section
variable {FT : List Fn} {h : Hs} {Q : PV → Hs → Prop} {n d f m size : Nat} {rs : List Ro} {qs : List Int}
theorem indexSetI_e {is : List Int} (i : Is FT f 1 2 indexSetB) (hl : is.length ≤ 10000) : cal FT (d + 1) f [.tl ((is.map D.int).map .d)] h = some (.d (.tup ((setI is).map D.int)), h) := by
  refine eq_of_wp (i.call rfl ?_)
  unfold indexSetB
  rw [convs_cons, conv_tld, convs_nil]
  dsimp only
  have hz : sizeLine = 2 ^ 24 := rfl
  obtain ⟨n1, n2, n3⟩ := met_all is [] List.nodup_nil
  simp only [Pe.Pw.ws, List.set_cons_zero, List.set_cons_succ, List.length_cons, List.length_nil, List.map_cons, List.map_nil, List.cons_append, List.nil_append, List.replicate_succ, List.replicate_zero, Nat.reduceSub, Nat.reduceAdd, Nat.reduceLT, true_and, and_true, if_true, Bool.false_eq_true, if_false, true_implies, false_implies, forall_const, decide_eq_true_eq, decide_eq_false_iff_not, Bool.not_eq_true', Bool.not_eq_false', reduceCtorEq]
  refine w_dclx is (fun i => .d (.int i)) (fun i => (.inl i, .bl true)) (by
    rw [show (is.map fun j => PV.d (.int j)) = (is.map D.int).map PV.d by rw [List.map_map]; rfl]
    exact its_cell (List.getElem?_concat_length ..)) (by omega) (fun i _ => ?_) ?_
  · simp only [Pe.Pw.ws, List.set_cons_zero, List.set_cons_succ, List.length_cons, List.length_nil, List.map_cons, List.map_nil, List.cons_append, List.nil_append, List.replicate_succ, List.replicate_zero, Nat.reduceSub, Nat.reduceAdd, Nat.reduceLT, true_and, and_true, if_true, Bool.false_eq_true, if_false, true_implies, false_implies, forall_const, decide_eq_true_eq, decide_eq_false_iff_not, Bool.not_eq_true', Bool.not_eq_false', reduceCtorEq]
  · have e : is.foldl (fun es (x : Int) => putD es (Sum.inl x) (D.bl true)) [] = (is.foldl (fun acc x => if x ∈ acc then acc else acc ++ [x]) []).map fun k => ((Sum.inl k : Sum Int Str), D.bl true) := putD_ints is []
    rw [e]
    have ln : (is.foldl (fun acc x => if x ∈ acc then acc else acc ++ [x]) []).length ≤ is.length := by simpa using n3
    have st := sortI_set n1 (is := is) fun k => by rw [n2 k]; simp
    generalize is.foldl (fun acc x => if x ∈ acc then acc else acc ++ [x]) [] = ks at *
    simp only [Pe.Pw.ws, List.set_cons_zero, List.set_cons_succ, List.length_cons, List.length_nil, List.map_cons, List.map_nil, List.cons_append, List.nil_append, List.replicate_succ, List.replicate_zero, Nat.reduceSub, Nat.reduceAdd, Nat.reduceLT, true_and, and_true, if_true, Bool.false_eq_true, if_false, true_implies, false_implies, forall_const, decide_eq_true_eq, decide_eq_false_iff_not, Bool.not_eq_true', Bool.not_eq_false', reduceCtorEq, w_listF, List.length_map]
    refine ⟨by omega, ?_⟩
    rw [List.map_map, show (ks.map ((fun p : Sum Int Str × D => PV.d (dKey p.1)) ∘ fun k => (Sum.inl k, D.bl true))) = (ks.map D.int).map .d by
      rw [List.map_map]; rfl]
    simp only [Pe.Pw.ws, List.set_cons_zero, List.set_cons_succ, List.length_cons, List.length_nil, List.map_cons, List.map_nil, List.cons_append, List.nil_append, List.replicate_succ, List.replicate_zero, Nat.reduceSub, Nat.reduceAdd, Nat.reduceLT, true_and, and_true, if_true, Bool.false_eq_true, if_false, true_implies, false_implies, forall_const, decide_eq_true_eq, decide_eq_false_iff_not, Bool.not_eq_true', Bool.not_eq_false', reduceCtorEq, w_sortL, mkTup_ds, st]
    rw [List.take_left]
end
end Pe.Pw
/-! Pe: two-way towns: _law_link puts new lists into its caller's list. -/
namespace Pe.Pw
open PySem
theorem refs_inj : ∀ {a b : List Nat}, a.map PV.ref = b.map PV.ref → a = b
  | [], [], _ => rfl
  | [], _ :: _, h => by cases h
  | _ :: _, [], h => by cases h
  | x :: a, y :: b, h => by
    rw [List.map_cons, List.map_cons] at h
    obtain ⟨h1, h2⟩ := List.cons.inj h
    rw [PV.ref.inj h1, refs_inj h2]
abbrev nlD (d : List Nat) : List PV := (d.map fun j => D.int (j : Nat)).map .d
/-- the doors' lists in a list -/
structure Dd (lo : Nat) (hh : Hs) (c : Nat) (ds : List (List Nat)) : Prop where
  ex : ∃ rs : List Nat, hh[c]? = some (Cell.lst (rs.map .ref)) ∧ rs.length = ds.length ∧ (∀ r ∈ rs, lo ≤ r ∧ r ≠ c) ∧ ∀ (i r : Nat) (d : List Nat), rs[i]? = some r → ds[i]? = some d → hh[r]? = some (Cell.lst (nlD d))
/-- all but the cell c stays -/
def But (c : Nat) (hh hh' : Hs) : Prop := ∀ (i : Nat) (x : Cell), i ≠ c → hh[i]? = some x → hh'[i]? = some x
theorem But.refl {c : Nat} {hh : Hs} : But c hh hh := fun _ _ _ e => e
theorem But.trans {c : Nat} {h1 h2 h3 : Hs} (a : But c h1 h2) (b : But c h2 h3) : But c h1 h3 := fun i x hi e => b i x hi (a i x hi e)
theorem But.pre {c : Nat} {X es hh' : Hs} (a : But c (X ++ es) hh') (hc : X.length ≤ c) : ∃ es', hh' = X ++ es' := by
  refine ⟨hh'.drop X.length, ?_⟩
  have : hh'.take X.length = X := by
    apply List.ext_getElem?
    intro i
    by_cases hi : i < X.length
    · rw [List.getElem?_take_of_lt hi, List.getElem?_eq_getElem hi]
      exact a i _ (by omega) (by rw [List.getElem?_append_left hi, List.getElem?_eq_getElem hi])
    · rw [List.getElem?_eq_none (by rw [List.length_take]; omega), List.getElem?_eq_none (by omega)]
  have t := List.take_append_drop X.length hh'
  rw [this] at t
  exact t.symm
section
variable {FT : List Fn} {h hh : Hs} {Q : PV → Hs → Prop} {n d f fb c lo m : Nat} {ds : List (List Nat)}
theorem ixN_nat {k n : Nat} (hk : k < n) : L2.ixN n (k : Int) = some k := by
  unfold L2.ixN
  rw [if_pos (by omega), if_pos (by omega), Int.toNat_natCast]
theorem w_setT {xs : List PV} {k : Int} {j : Nat} {ys : List D} {U : Unit → Hs → Prop} (e : h[c]? = some (Cell.lst xs)) (e2 : L2.ixN xs.length k = some j) (hf : fb ≤ c) : Wp (setV fb (.ref c) (.d (.int k)) (.tl (ys.map .d))) h U ↔ U () ((h ++ [Cell.lst (ys.map .d)]).set c (Cell.lst (xs.set j (.ref h.length)))) := by
  have hc := (List.getElem?_eq_some_iff.mp e).1
  refine w_iff ?_
  show (match conv (.tl (ys.map .d)) h with
    | (v', h1) => match h1[c]? with
      | some (Cell.lst xs) => match L2.ixN xs.length k with
        | some j => if storeOk fb c v' then some ((), h1.set c (Cell.lst (xs.set j v'))) else none
        | none => none
      | none => none) = _
  rw [conv_tld]
  dsimp only
  rw [List.getElem?_append_left hc, e]
  dsimp only
  rw [e2]
  dsimp only
  rw [show storeOk fb c (.ref h.length) = true from decide_eq_true hf]
  rfl
theorem Dd.put {j : Nat} {d' : List Nat} {rs : List Nat} (D : Dd lo hh c ds) (e : hh[c]? = some (Cell.lst (rs.map .ref))) (hl : lo ≤ hh.length) : Dd lo ((hh ++ [Cell.lst (nlD d')]).set c (Cell.lst ((rs.map PV.ref).set j (.ref hh.length)))) c (ds.set j d') ∧ But c hh ((hh ++ [Cell.lst (nlD d')]).set c (Cell.lst ((rs.map PV.ref).set j (.ref hh.length)))) := by
  obtain ⟨rs2, e2, rl, ro, rg⟩ := D.ex
  rw [e] at e2
  have : rs = rs2 := by
    have := Cell.lst.inj (Option.some.inj e2)
    exact refs_inj this
  subst this
  have hc := (List.getElem?_eq_some_iff.mp e).1
  have keep : But c hh ((hh ++ [Cell.lst (nlD d')]).set c (Cell.lst ((rs.map PV.ref).set j (.ref hh.length)))) := fun i x hi ei => by
    rw [List.getElem?_set_ne (Ne.symm hi), List.getElem?_append_left (List.getElem?_eq_some_iff.mp ei).1]
    exact ei
  refine ⟨⟨rs.set j hh.length, ?_, by rw [List.length_set, List.length_set, rl], fun r hr => ?_, fun i r d er ed => ?_⟩, keep⟩
  · rw [List.getElem?_set_self (by rw [List.length_append]; omega), List.map_set]
  · rcases List.mem_or_eq_of_mem_set hr with h | h
    · exact ro r h
    · rw [h]; exact ⟨hl, by omega⟩
  · by_cases ij : j = i
    · subst ij
      have hj : j < rs.length := by
        have := (List.getElem?_eq_some_iff.mp er).1
        rwa [List.length_set] at this
      rw [List.getElem?_set_self hj] at er
      rw [List.getElem?_set_self (by omega)] at ed
      cases er
      cases ed
      rw [List.getElem?_set_ne (by omega)]
      exact List.getElem?_concat_length ..
    · rw [List.getElem?_set_ne ij] at er ed
      exact keep r _ (ro r (List.mem_of_getElem? er)).2 (rg i r d er ed)
theorem Dd.at_ {j : Nat} (D : Dd lo hh c ds) (hj : j < ds.length) : ∃ (rs : List Nat) (r : Nat), hh[c]? = some (Cell.lst (rs.map .ref)) ∧ rs.length = ds.length ∧ L2.atI (rs.map PV.ref) (j : Int) = some (.ref r) ∧ hh[r]? = some (Cell.lst (nlD ds[j])) ∧ lo ≤ r := by
  obtain ⟨rs, e, rl, ro, rg⟩ := D.ex
  have hj2 : j < rs.length := by omega
  refine ⟨rs, rs[j], e, rl, ?_, rg j rs[j] ds[j] (List.getElem?_eq_getElem hj2) (List.getElem?_eq_getElem hj), (ro _ (List.getElem_mem hj2)).1⟩
  rw [atI_nat, List.getElem?_map, List.getElem?_eq_getElem hj2]
  rfl
theorem Dd.but {X : Hs} (D : Dd lo (h ++ X) c ds) {h' : Hs} (hl : h.length ≤ c) (lh : h.length ≤ lo) (e : h'.length = h.length) : Dd lo (h' ++ X) c ds := by
  have sw : ∀ i, h.length ≤ i → (h' ++ X)[i]? = (h ++ X)[i]? := fun i hi => by
    rw [List.getElem?_append_right (by omega), List.getElem?_append_right hi, e]
  obtain ⟨rs, e1, rl, ro, rg⟩ := D.ex
  refine ⟨rs, by rw [sw c hl]; exact e1, rl, ro, fun i r d er ed => ?_⟩
  rw [sw r (by have := (ro r (List.mem_of_getElem? er)).1; omega)]
  exact rg i r d er ed
def DsOk (m : Nat) (ds : List (List Nat)) : Prop := ds.length = m ∧ ∀ d ∈ ds, d.length ≤ 4 ∧ ∀ g ∈ d, g < m
theorem DsOk.put {j g : Nat} (o : DsOk m ds) (hj : j < ds.length) (hl : ds[j].length < 4) (hg : g < m) : DsOk m (ds.set j (ds[j] ++ [g])) := by
  refine ⟨by rw [List.length_set, o.1], fun d hd => ?_⟩
  rcases List.mem_or_eq_of_mem_set hd with h | h
  · exact o.2 d h
  · rw [h, List.length_append, List.length_singleton]
    have := o.2 _ (List.getElem_mem hj)
    refine ⟨by omega, fun x hx => ?_⟩
    rcases List.mem_append.mp hx with hx | hx
    · exact this.2 x hx
    · rw [List.mem_singleton.mp hx]; exact hg
def linkB : List S := [.ife (.an (.cmp .lt (.blt .len [(.idx (.var 0) (.var 1))]) (.cst (.int 4))) (.cmp .lt (.blt .len [(.idx (.var 0) (.var 2))]) (.cst (.int 4)))) [.ife (.cmp .ne (.var 1) (.var 2)) [.sub (.var 0) (.var 2) (.bin .add (.idx (.var 0) (.var 2)) (.lst [(.var 1)]))] [], .sub (.var 0) (.var 1) (.bin .add (.idx (.var 0) (.var 1)) (.lst [(.var 2)]))] []]
theorem link_w {one other : Nat} (is : Is FT f 3 3 linkB) (hk : FT[f + KEEP]? = none) (dd : Dd lo hh c ds) (o : DsOk m ds) (h1 : one < m) (h2 : other < m) (hf : fb ≤ c) (hl : lo ≤ hh.length)
    (q : ∀ hh' ds', Dd lo hh' c ds' → DsOk m ds' → But c hh hh' → Q (.d .non) hh') : Wp (cal FT (d + 1) (f + KEEP) [.d (.int (fb : Nat)), .ref c, .d (.int (one : Nat)), .d (.int (other : Nat))]) hh Q := by
  refine is.callk hk rfl ?_
  unfold linkB
  have hz : sizeLine = 2 ^ 24 := rfl
  have l1 : one < ds.length := by rw [o.1]; exact h1
  have l2 : other < ds.length := by rw [o.1]; exact h2
  obtain ⟨rs, r1, ec, rl, a1, c1, _⟩ := dd.at_ l1
  obtain ⟨rs2, r2, ec2, _, a2, c2, _⟩ := dd.at_ l2
  have : rs2 = rs := by
    rw [ec] at ec2
    exact (refs_inj (Cell.lst.inj (Option.some.inj ec2))).symm
  subst this
  have n1 : (nlD ds[one]).length = ds[one].length := by rw [List.length_map, List.length_map]
  have n2 : (nlD ds[other]).length = ds[other].length := by rw [List.length_map, List.length_map]
  have o1 := (o.2 _ (List.getElem_mem l1)).1
  have o2 := (o.2 _ (List.getElem_mem l2)).1
  have app : ∀ (d : List Nat) (x : Nat), nlD d ++ [PV.d (.int (x : Nat))] = ((d ++ [x]).map fun j => D.int (j : Nat)).map .d := fun d x => by simp
  simp only [Pe.Pw.ws, List.set_cons_zero, List.set_cons_succ, List.length_cons, List.length_nil, List.map_cons, List.map_nil, List.cons_append, List.nil_append, List.replicate_succ, List.replicate_zero, Nat.reduceSub, Nat.reduceAdd, Nat.reduceLT, true_and, and_true, if_true, Bool.false_eq_true, if_false, true_implies, false_implies, forall_const, decide_eq_true_eq, decide_eq_false_iff_not, Bool.not_eq_true', Bool.not_eq_false', reduceCtorEq, w_ixR ec a1, w_lenR c1, w_ixR ec a2, w_lenR c2, n1, n2]
  have hc := (List.getElem?_eq_some_iff.mp ec).1
  refine ⟨fun q1 => ⟨fun q2 => ⟨fun ne => ⟨sz, ?_⟩, fun ne => ⟨sz, ?_⟩⟩, fun _ => q hh ds dd o .refl⟩, fun _ => q hh ds dd o .refl⟩
  · have ne : one ≠ other := fun e => ne (by rw [e])
    rw [w_addRL c2]
    refine ⟨by rw [n2]; simp; omega, ?_⟩
    rw [app, w_setT ec (ixN_nat (show other < (rs2.map PV.ref).length by rw [List.length_map]; omega)) hf]
    obtain ⟨dd2, bt⟩ := dd.put (j := other) (d' := ds[other] ++ [one]) ec hl
    have o2' := o.put l2 (by omega) h1
    have hl2 : lo ≤ ((hh ++ [Cell.lst (nlD (ds[other] ++ [one]))]).set c (.lst ((rs2.map PV.ref).set other (.ref hh.length)))).length := by rw [List.length_set, List.length_append]; omega
    generalize (hh ++ [Cell.lst (nlD (ds[other] ++ [one]))]).set c (.lst ((rs2.map PV.ref).set other (.ref hh.length))) = H1 at *
    have l1' : one < (ds.set other (ds[other] ++ [one])).length := by rw [List.length_set]; exact l1
    have e1 : (ds.set other (ds[other] ++ [one]))[one] = ds[one] := List.getElem_set_ne (Ne.symm ne) l1'
    obtain ⟨rs3, r3, ec3, rl3, a3, c3, _⟩ := dd2.at_ l1'
    have n3 : (nlD (ds.set other (ds[other] ++ [one]))[one]).length = ds[one].length := by rw [List.length_map, List.length_map, e1]
    rw [List.length_set] at rl3
    rw [w_ixR ec3 a3]
    refine ⟨sz, ?_⟩
    rw [w_addRL c3]
    refine ⟨by rw [n3]; simp; omega, ?_⟩
    rw [app, w_setT ec3 (ixN_nat (show one < (rs3.map PV.ref).length by rw [List.length_map]; omega)) hf, lk_nx]
    obtain ⟨dd3, bt3⟩ := dd2.put (j := one) (d' := (ds.set other (ds[other] ++ [one]))[one] ++ [other]) ec3 hl2
    exact q _ _ dd3 (o2'.put l1' (by rw [e1]; omega) h2) (bt.trans bt3)
  · have ne : one = other := by omega
    subst ne
    rw [w_addRL c1]
    refine ⟨by rw [n1]; simp; omega, ?_⟩
    rw [app, w_setT ec (ixN_nat (show one < (rs2.map PV.ref).length by rw [List.length_map]; omega)) hf, lk_nx]
    obtain ⟨dd2, bt⟩ := dd.put (j := one) (d' := ds[one] ++ [one]) ec hl
    exact q _ _ dd2 (o.put l1 (by omega) h1) bt
end
end Pe.Pw
/-! Pe: _law_two_way. -/
namespace Pe.Pw
open PySem
section
variable {FT : List Fn} {h hh : Hs} {Q : PV → Hs → Prop} {n d f fb c lo m : Nat} {ds : List (List Nat)}
theorem Dd.app {es : Hs} (D : Dd lo hh c ds) : Dd lo (hh ++ es) c ds := by
  obtain ⟨rs, e1, rl, ro, rg⟩ := D.ex
  refine ⟨rs, by rw [List.getElem?_append_left (List.getElem?_eq_some_iff.mp e1).1]; exact e1, rl, ro, fun i r d er ed => ?_⟩
  have := rg i r d er ed
  rw [List.getElem?_append_left (List.getElem?_eq_some_iff.mp this).1]
  exact this
theorem Dd.start : Dd h.length (h ++ (List.replicate m ([] : List (Option Int))).map rowC ++ [Cell.lst ((List.range' h.length m).map .ref)]) (h.length + m) (List.replicate m []) := by
  have a := mx_new (h := h) (M := (List.replicate m ([] : List (Option Int))))
  rw [List.length_replicate] at a
  refine ⟨List.range' h.length m, a.cell, by rw [List.length_range', List.length_replicate], fun r hr => ?_, fun i r d er ed => ?_⟩
  · have := List.mem_range'_1.mp hr
    omega
  · have hi := (List.getElem?_eq_some_iff.mp er).1
    rw [List.length_range'] at hi
    rw [List.getElem?_replicate, if_pos hi] at ed
    cases ed
    exact a.rows i r [] er (by rw [List.getElem?_replicate, if_pos hi])
theorem DsOk.start : DsOk m (List.replicate m []) := ⟨List.length_replicate .., fun d hd => by rw [(List.mem_replicate.mp hd).2]; exact ⟨Nat.zero_le _, fun g z => absurd z List.not_mem_nil⟩⟩
theorem Dd.weak {lo' : Nat} (D : Dd lo hh c ds) (e : lo' ≤ lo) : Dd lo' hh c ds := by
  obtain ⟨rs, e1, rl, ro, rg⟩ := D.ex
  exact ⟨rs, e1, rl, fun r hr => ⟨Nat.le_trans e (ro r hr).1, (ro r hr).2⟩, rg⟩
def twoWayB (tk wd lk pk sh : Nat) : List S := [.asg (.nm 4) (.bin .add (.var 1) (.call tk [(.var 0), (.bin .add (.bin .sub (.var 2) (.var 1)) (.cst (.int 1)))])), .asg (.nm 5) (.call wd [(.var 0), (.bin .add (.cst (.int 1)) (.call tk [(.var 0), (.cst (.int 3))]))]), .asg (.nm 6) (.comp [7] (.nm 7) (.rng1 (.var 4)) false (.cst (.bl true)) (.lst [])), .ife (.cmp .eq (.var 3) (.cst (.int 1))) [.fr (.nm 7) (.rng2 (.cst (.int 1)) (.var 4)) [.ex (.callk lk [(.var 6), (.call pk [(.var 0), (.comp [11] (.nm 11) (.rng1 (.var 7)) true (.cmp .lt (.blt .len [(.idx (.var 6) (.var 11))]) (.cst (.int 4))) (.var 11))]), (.var 7)])]] [], .fr (.nm 7) (.rng1 (.call tk [(.var 0), (.bin .add (.var 4) (.cst (.int 2)))])) [.ex (.callk lk [(.var 6), (.call tk [(.var 0), (.var 4)]), (.call tk [(.var 0), (.var 4)])])], .asg (.nm 8) (.lst []), .fr (.nm 7) (.rng1 (.var 4)) [.asg (.nm 9) (.call sh [(.var 0), (.idx (.var 6) (.var 7))]), .ife (.an (.cmp .lt (.blt .len [(.var 9)]) (.cst (.int 4))) (.cmp .eq (.call tk [(.var 0), (.cst (.int 4))]) (.cst (.int 0)))) [.asg (.nm 10) (.call tk [(.var 0), (.bin .add (.blt .len [(.var 9)]) (.cst (.int 1)))]), .asg (.nm 9) (.bin .add (.bin .add (.slc false true (.var 9) (.cst .non) (.var 10)) (.lst [(.cst .non)])) (.slc true false (.var 9) (.var 10) (.cst .non)))] [], .ex (.mth .append (.var 8) [(.tup [(.call pk [(.var 0), (.var 5)]), (.blt .tuple [(.var 9)])])])], .ret (.blt .tuple [(.var 8)])]
theorem twoWay_w {tk wd lk pk sh : Nat} (is : Is FT f 4 12 (twoWayB tk wd lk pk sh)) (it : Is FT tk 2 2 takeB) (iw : Is FT wd 2 8 (wordsB tk)) (il : Is FT lk 3 3 linkB) (ik : FT[lk + KEEP]? = none) (ip : Is FT pk 2 2 (pickB tk)) (ish : Is FT sh 2 5 (shufB tk)) {least most : Nat} (h1 : 0 < least) (h2 : least ≤ most) (h3 : most ≤ 50) (a : Dr n h)
    (q : ∀ (t : List Pl) g, least ≤ t.length → t.length ≤ most → (∀ p ∈ t, PlOk t.length 4 p) → Dn n h g → Q (.d (townD t)) g) : Wp (cal FT (d + 4) f [.ref n, .d (.int (least : Nat)), .d (.int (most : Nat)), .d (.int 0)]) h Q := by
  refine is.call rfl ?_
  unfold twoWayB
  have hz : sizeLine = 2 ^ 24 := rfl
  have hn := a.lt
  let E : Nat → Option PV → Option PV → Option PV → Option PV → Option PV → Option PV → Option PV → Env := fun m e5 e6 e7 e8 e9 e10 e11 => [some (.ref n), some (.d (.int (least : Nat))), some (.d (.int (most : Nat))), some (.d (.int 0)), some (.d (.int (m : Nat))), e5, e6, e7, e8, e9, e10, e11]
  refine w_cut (fun e hh => ∃ m : Nat, least ≤ m ∧ m ≤ most ∧ Dn n h hh ∧ e = E m none none none none none none none) ?_ ?_
  · simp only [Pe.Pw.ws, List.set_cons_zero, List.set_cons_succ, List.length_cons, List.length_nil, List.map_cons, List.map_nil, List.cons_append, List.nil_append, List.replicate_succ, List.replicate_zero, Nat.reduceSub, Nat.reduceAdd, Nat.reduceLT, true_and, and_true, if_true, Bool.false_eq_true, if_false, true_implies, false_implies, forall_const, decide_eq_true_eq, decide_eq_false_iff_not, Bool.not_eq_true', Bool.not_eq_false', reduceCtorEq]
    refine take_w it (by omega) a fun r g r0 r1 b => ?_
    obtain ⟨r, rfl⟩ := Int.eq_ofNat_of_zero_le r0
    simp only [Pe.Pw.ws, List.set_cons_zero, List.set_cons_succ, List.length_cons, List.length_nil, List.map_cons, List.map_nil, List.cons_append, List.nil_append, List.replicate_succ, List.replicate_zero, Nat.reduceSub, Nat.reduceAdd, Nat.reduceLT, true_and, and_true, if_true, Bool.false_eq_true, if_false, true_implies, false_implies, forall_const, decide_eq_true_eq, decide_eq_false_iff_not, Bool.not_eq_true', Bool.not_eq_false', reduceCtorEq]
    exact ⟨least + r, by omega, by omega, b, rfl⟩
  rintro _ X ⟨m, m0, m1, b, rfl⟩
  refine w_cut (fun e hh => ∃ (ws : List Str) (X : Hs) (wc : Nat), 0 < ws.length ∧ (∀ w ∈ ws, SOk 2000 w) ∧ Dn n h X ∧ wc = h.length ∧ hh = X ++ [Cell.lst ((ws.map D.str).map .d)] ∧ e = E m (some (.ref wc)) none none none none none none) ?_ ?_
  · simp only [Pe.Pw.ws, List.set_cons_zero, List.set_cons_succ, List.length_cons, List.length_nil, List.map_cons, List.map_nil, List.cons_append, List.nil_append, List.replicate_succ, List.replicate_zero, Nat.reduceSub, Nat.reduceAdd, Nat.reduceLT, true_and, and_true, if_true, Bool.false_eq_true, if_false, true_implies, false_implies, forall_const, decide_eq_true_eq, decide_eq_false_iff_not, Bool.not_eq_true', Bool.not_eq_false', reduceCtorEq, E]
    refine take_w it (by decide) (b.dr a) fun r g r0 r1 b1 => ?_
    obtain ⟨r, rfl⟩ := Int.eq_ofNat_of_zero_le r0
    have b1 := b.trans b1
    simp only [Pe.Pw.ws, List.set_cons_zero, List.set_cons_succ, List.length_cons, List.length_nil, List.map_cons, List.map_nil, List.cons_append, List.nil_append, List.replicate_succ, List.replicate_zero, Nat.reduceSub, Nat.reduceAdd, Nat.reduceLT, true_and, and_true, if_true, Bool.false_eq_true, if_false, true_implies, false_implies, forall_const, decide_eq_true_eq, decide_eq_false_iff_not, Bool.not_eq_true', Bool.not_eq_false', reduceCtorEq]
    rw [show (1 + (r : Int)) = ((1 + r : Nat) : Int) by omega]
    refine words_w iw it (by omega) (b1.dr a) fun ws g3 hwl hws b3 => ?_
    have b3 := b1.trans b3
    rw [show (ws.map fun s => PV.d (.str s)) = (ws.map D.str).map PV.d by rw [List.map_map]; rfl, conv_tld]
    exact ⟨ws, g3, g3.length, by omega, hws, b3, b3.len, rfl, rfl⟩
  clear b X
  rintro _ _ ⟨ws, X, wc, wl, wok, b, rfl, rfl, rfl⟩
  have wk : ∀ (X es : Hs) (x : Cell), X.length = h.length → (X ++ es)[h.length]? = some x → ∀ X2 : Hs, X2.length = h.length → (X2 ++ es)[h.length]? = some x := fun X es x e1 e X2 e2 => by
    rw [List.getElem?_append_right (by omega)] at e
    rw [List.getElem?_append_right (by omega)]
    rw [e2, ← e1]
    rw [← e1] at e
    exact e
  let St : Hs → Nat → List (List Nat) → Hs → Prop := fun es c ds hh => ∃ X, Dn n h X ∧ hh = X ++ es ∧ hh[h.length]? = some (.lst ((ws.map D.str).map .d)) ∧ h.length < c ∧ Dd h.length hh c ds ∧ DsOk m ds
  refine w_cut (fun e hh => ∃ (es : Hs) (c : Nat) (ds : List (List Nat)) (e7 : Option PV), St es c ds hh ∧ e = E m (some (.ref h.length)) (some (.ref c)) e7 none none none none) ?_ ?_
  · simp only [Pe.Pw.ws, List.set_cons_zero, List.set_cons_succ, List.length_cons, List.length_nil, List.map_cons, List.map_nil, List.cons_append, List.nil_append, List.replicate_succ, List.replicate_zero, Nat.reduceSub, Nat.reduceAdd, Nat.reduceLT, true_and, and_true, if_true, Bool.false_eq_true, if_false, true_implies, false_implies, forall_const, decide_eq_true_eq, decide_eq_false_iff_not, Bool.not_eq_true', Bool.not_eq_false', reduceCtorEq, E]
    refine ⟨by omega, ?_⟩
    rw [show ((m : Int) - 0).toNat = m by omega]
    refine w_clg (fun _ => rowV []) (by omega) (fun x hx => ?_) ?_
    · simp only [Pe.Pw.ws, List.set_cons_zero, List.set_cons_succ, List.length_cons, List.length_nil, List.map_cons, List.map_nil, List.cons_append, List.nil_append, List.replicate_succ, List.replicate_zero, Nat.reduceSub, Nat.reduceAdd, Nat.reduceLT, true_and, and_true, if_true, Bool.false_eq_true, if_false, true_implies, false_implies, forall_const, decide_eq_true_eq, decide_eq_false_iff_not, Bool.not_eq_true', Bool.not_eq_false', reduceCtorEq]
      exact ⟨sz, rfl⟩
    · have e0 : ((List.range m).map fun _ => rowV []) = (List.replicate m ([] : List (Option Int))).map rowV := by
        rw [List.map_replicate, List.map_const', List.length_range]
      rw [e0, show PV.tl ((List.replicate m ([] : List (Option Int))).map rowV) = mxV (List.replicate m []) from rfl, conv_mx, List.length_replicate]
      have st := Dd.start (h := X ++ [Cell.lst ((ws.map D.str).map .d)]) (m := m)
      have xl := b.len
      refine ⟨[Cell.lst ((ws.map D.str).map .d)] ++ ((List.replicate m ([] : List (Option Int))).map rowC ++ [Cell.lst ((List.range' (X ++ [Cell.lst ((ws.map D.str).map .d)]).length m).map .ref)]), _, _, _, ⟨X, b, by simp, ?_, ?_, st.weak (by rw [List.length_append]; omega), .start⟩, rfl⟩
      · rw [List.append_assoc, List.append_assoc, ← xl]
        exact gA0
      · rw [List.length_append, List.length_singleton]
        omega
  rintro _ hh ⟨es, c, ds, e7, st, rfl⟩
  refine w_cut (fun e hh => ∃ (es : Hs) (c : Nat) (ds : List (List Nat)) (e7 : Option PV), St es c ds hh ∧ e = E m (some (.ref h.length)) (some (.ref c)) e7 none none none none) ?_ ?_
  · simp only [Pe.Pw.ws, List.set_cons_zero, List.set_cons_succ, List.length_cons, List.length_nil, List.map_cons, List.map_nil, List.cons_append, List.nil_append, List.replicate_succ, List.replicate_zero, Nat.reduceSub, Nat.reduceAdd, Nat.reduceLT, true_and, and_true, if_true, Bool.false_eq_true, if_false, true_implies, false_implies, forall_const, decide_eq_true_eq, decide_eq_false_iff_not, Bool.not_eq_true', Bool.not_eq_false', reduceCtorEq, E]
    exact ⟨fun z => absurd z (by decide), fun _ => ⟨es, c, ds, e7, st, rfl⟩⟩
  clear st es c ds e7 hh
  rintro _ hh ⟨es, c, ds, e7, st, rfl⟩
  refine w_cut (fun e hh => ∃ (es : Hs) (c : Nat) (ds : List (List Nat)) (e7 : Option PV), St es c ds hh ∧ e = E m (some (.ref h.length)) (some (.ref c)) e7 none none none none) ?_ ?_
  · obtain ⟨X, b, rfl, ew, hc, dd, o⟩ := st
    simp only [Pe.Pw.ws, List.set_cons_zero, List.set_cons_succ, List.length_cons, List.length_nil, List.map_cons, List.map_nil, List.cons_append, List.nil_append, List.replicate_succ, List.replicate_zero, Nat.reduceSub, Nat.reduceAdd, Nat.reduceLT, true_and, and_true, if_true, Bool.false_eq_true, if_false, true_implies, false_implies, forall_const, decide_eq_true_eq, decide_eq_false_iff_not, Bool.not_eq_true', Bool.not_eq_false', reduceCtorEq, E]
    refine take_w it (by omega) (b.dr a).app fun r g r0 r1 b1 => ?_
    obtain ⟨X2, rfl, c2⟩ := b1.split (by have := b.len; omega)
    obtain ⟨r, rfl⟩ := Int.eq_ofNat_of_zero_le r0
    have b2 := b.trans c2
    simp only [Pe.Pw.ws, List.set_cons_zero, List.set_cons_succ, List.length_cons, List.length_nil, List.map_cons, List.map_nil, List.cons_append, List.nil_append, List.replicate_succ, List.replicate_zero, Nat.reduceSub, Nat.reduceAdd, Nat.reduceLT, true_and, and_true, if_true, Bool.false_eq_true, if_false, true_implies, false_implies, forall_const, decide_eq_true_eq, decide_eq_false_iff_not, Bool.not_eq_true', Bool.not_eq_false', reduceCtorEq]
    refine ⟨by omega, ?_⟩
    rw [show ((r : Int) - 0).toNat = r by omega]
    refine w_forN (fun i e hh => ∃ (es : Hs) (ds : List (List Nat)) (e7 : Option PV), St es c ds hh ∧ e = E m (some (.ref h.length)) (some (.ref c)) e7 none none none none) ⟨es, ds, _, ⟨X2, b2, rfl, wk X es _ b.len ew X2 b2.len, hc, dd.but (by have := b.len; omega) (by rw [b.len]; exact Nat.le_refl _) (by rw [b2.len, b.len]), o⟩, rfl⟩ (fun i e hh hi p => ?_) fun e hh p => ?_
    · clear b b1 b2 c2 dd o ew
      obtain ⟨es, ds, e7, ⟨X, b, rfl, ew, hc, dd, o⟩, rfl⟩ := p
      refine w_nm.mpr ⟨(by decide : 7 < 12), ?_⟩
      rw [conv_d]
      simp only [Pe.Pw.ws, List.set_cons_zero, List.set_cons_succ, List.length_cons, List.length_nil, List.map_cons, List.map_nil, List.cons_append, List.nil_append, List.replicate_succ, List.replicate_zero, Nat.reduceSub, Nat.reduceAdd, Nat.reduceLT, true_and, and_true, if_true, Bool.false_eq_true, if_false, true_implies, false_implies, forall_const, decide_eq_true_eq, decide_eq_false_iff_not, Bool.not_eq_true', Bool.not_eq_false', reduceCtorEq, E, w_callk]
      refine take_w it (by omega) (b.dr a).app fun r1 g r10 r11 b1 => ?_
      obtain ⟨X2, rfl, c2⟩ := b1.split (by have := b.len; omega)
      obtain ⟨r1, rfl⟩ := Int.eq_ofNat_of_zero_le r10
      have b2 := b.trans c2
      refine take_w it (by omega) (b2.dr a).app fun r2 g r20 r21 b1 => ?_
      obtain ⟨X3, rfl, c3⟩ := b1.split (by have := b2.len; omega)
      obtain ⟨r2, rfl⟩ := Int.eq_ofNat_of_zero_le r20
      have b3 := b2.trans c3
      have x3 := b3.len
      have ew3 := wk X es _ b.len ew X3 b3.len
      have dd3 : Dd h.length (X3 ++ es) c ds := dd.but (by have := b.len; omega) (by rw [b.len]; exact Nat.le_refl _) (by rw [b3.len, b.len])
      refine link_w (d := d + 2) (lo := h.length) (m := m) il ik dd3 o (by omega) (by omega) (by omega) (by rw [List.length_append]; omega) fun hh' ds' dd' o' bt => ?_
      obtain ⟨es', rfl⟩ := bt.pre (by omega)
      exact ⟨es', ds', _, ⟨X3, b3, rfl, bt _ _ (by omega) ew3, hc, dd', o'⟩, rfl⟩
    · obtain ⟨es, ds, e7, st, rfl⟩ := p
      exact ⟨es, c, ds, _, st, rfl⟩
  clear st es c ds e7 hh
  rintro _ hh ⟨es, c, ds, e7, ⟨X, b, rfl, ew, hc, dd, o⟩, rfl⟩
  have xl := b.len
  refine w_cut (fun e hh => hh = (X ++ es) ++ [Cell.lst ((([] : List Pl).map plD).map .d)] ∧ e = E m (some (.ref h.length)) (some (.ref c)) e7 (some (.ref (h.length + es.length))) none none none) ?_ ?_
  · simp only [Pe.Pw.ws, List.set_cons_zero, List.set_cons_succ, List.length_cons, List.length_nil, List.map_cons, List.map_nil, List.cons_append, List.nil_append, List.replicate_succ, List.replicate_zero, Nat.reduceSub, Nat.reduceAdd, Nat.reduceLT, true_and, and_true, if_true, Bool.false_eq_true, if_false, true_implies, false_implies, forall_const, decide_eq_true_eq, decide_eq_false_iff_not, Bool.not_eq_true', Bool.not_eq_false', reduceCtorEq, E, List.length_append, xl]
    exact sz
  rintro _ _ ⟨rfl, rfl⟩
  refine w_cut (fun e hh => ∃ (X gs : Hs) (pls : List Pl) (e7 e9 e10 e11 : Option PV), Dn n h X ∧ pls.length = m ∧ (∀ p ∈ pls, PlOk m 4 p) ∧ hh = (X ++ es) ++ Cell.lst ((pls.map plD).map .d) :: gs ∧ e = E m (some (.ref h.length)) (some (.ref c)) e7 (some (.ref (h.length + es.length))) e9 e10 e11) ?_ ?_
  · simp only [Pe.Pw.ws, List.set_cons_zero, List.set_cons_succ, List.length_cons, List.length_nil, List.map_cons, List.map_nil, List.cons_append, List.nil_append, List.replicate_succ, List.replicate_zero, Nat.reduceSub, Nat.reduceAdd, Nat.reduceLT, true_and, and_true, if_true, Bool.false_eq_true, if_false, true_implies, false_implies, forall_const, decide_eq_true_eq, decide_eq_false_iff_not, Bool.not_eq_true', Bool.not_eq_false', reduceCtorEq, E]
    refine ⟨by omega, ?_⟩
    rw [show ((m : Int) - 0).toNat = m by omega]
    refine w_forN (fun i e hh => ∃ (X gs : Hs) (pls : List Pl) (e7 e9 e10 e11 : Option PV), Dn n h X ∧ pls.length = i ∧ (∀ p ∈ pls, PlOk m 4 p) ∧ hh = (X ++ es) ++ Cell.lst ((pls.map plD).map .d) :: gs ∧ e = E m (some (.ref h.length)) (some (.ref c)) e7 (some (.ref (h.length + es.length))) e9 e10 e11) ⟨X, [], [], _, _, _, _, b, rfl, fun _ z => absurd z List.not_mem_nil, rfl, rfl⟩ (fun i e hh hi p => ?_) fun e hh p => p
    have ew0 := ew
    have dd0 := dd
    have xl0 := xl
    generalize hX0 : X = X0 at ew0 dd0 xl0
    clear hX0 b xl ew dd X
    obtain ⟨X, gs, pls, e7, e9, e10, e11, b, pl, pok, rfl, rfl⟩ := p
    have xl := b.len
    refine w_nm.mpr ⟨(by decide : 7 < 12), ?_⟩
    rw [Int.zero_add, conv_d]
    have ddk : ∀ (X : Hs) (gs : Hs), X.length = h.length → Dd h.length ((X ++ es) ++ gs) c ds := fun X gs e => (dd0.but (by omega) (by rw [xl0]; exact Nat.le_refl _) (by rw [e, xl0])).app
    have ewk : ∀ (X : Hs) (gs : Hs), X.length = h.length → ((X ++ es) ++ gs)[h.length]? = some (.lst ((ws.map D.str).map .d)) := fun X gs e => by
      have := wk X0 es _ xl0 ew0 X e
      rw [List.getElem?_append_left (List.getElem?_eq_some_iff.mp this).1]
      exact this
    have hid : i < ds.length := by rw [o.1]; exact hi
    have oi := o.2 _ (List.getElem_mem hid)
    refine w_cut (fun e hh => ∃ (X gs : Hs) (row : List (Option Nat)), Dn n h X ∧ row.length ≤ 4 ∧ (∀ g, some g ∈ row → g < m) ∧ hh = (X ++ es) ++ Cell.lst ((pls.map plD).map .d) :: (gs ++ [Cell.lst ((row.map oN).map .d)]) ∧ e = E m (some (.ref h.length)) (some (.ref c)) (some (.d (.int (i : Nat)))) (some (.ref (h.length + es.length))) (some (.ref (h.length + es.length + 1 + gs.length))) e10 e11) ?_ ?_
    · obtain ⟨rs, r, ec, rl, ar, cr, rlo⟩ := (ddk X (Cell.lst ((pls.map plD).map .d) :: gs) xl).at_ hid
      simp only [Pe.Pw.ws, List.set_cons_zero, List.set_cons_succ, List.length_cons, List.length_nil, List.map_cons, List.map_nil, List.cons_append, List.nil_append, List.replicate_succ, List.replicate_zero, Nat.reduceSub, Nat.reduceAdd, Nat.reduceLT, true_and, and_true, if_true, Bool.false_eq_true, if_false, true_implies, false_implies, forall_const, decide_eq_true_eq, decide_eq_false_iff_not, Bool.not_eq_true', Bool.not_eq_false', reduceCtorEq, E, w_ixR ec ar]
      have dX : Dr n ((X ++ es) ++ Cell.lst ((pls.map plD).map .d) :: gs) := (b.dr a).app.app
      refine shuf_r ish it (by rw [List.length_map]; omega) cr dX fun ys g pm b1 => ?_
      rw [List.append_assoc] at b1
      obtain ⟨X2, rfl, c2⟩ := b1.split (by omega)
      obtain ⟨us, pu, rfl⟩ := perm_map pm rfl
      rw [conv_tld]
      have b2 := b.trans c2
      refine ⟨X2, gs, us.map some, b2, by rw [List.length_map, pu.length_eq]; exact oi.1, fun g hg => ?_, ?_, ?_⟩
      · obtain ⟨u, hu, e⟩ := List.mem_map.mp hg
        exact Option.some.inj e ▸ oi.2 u (pu.mem_iff.mp hu)
      · have em : (us.map some).map oN = us.map fun u : Nat => D.int (u : Nat) := by rw [List.map_map]; rfl
        rw [em]
        simp only [List.append_assoc, List.cons_append]
      · rw [show (X2 ++ (es ++ Cell.lst ((pls.map plD).map .d) :: gs)).length = h.length + es.length + 1 + gs.length by simp only [List.length_append, List.length_cons, b2.len]; omega]
    clear b xl X gs
    rintro _ _ ⟨X, gs, row, b, rl, rg, rfl, rfl⟩
    have xl := b.len
    have cr : ∀ X : Hs, X.length = h.length → ((X ++ es) ++ Cell.lst ((pls.map plD).map .d) :: (gs ++ [Cell.lst ((row.map oN).map .d)]))[h.length + es.length + 1 + gs.length]? = some (.lst ((row.map oN).map .d)) := fun X e => by
      rw [List.getElem?_append_right (by rw [List.length_append]; omega), List.length_append, show h.length + es.length + 1 + gs.length - (X.length + es.length) = gs.length + 1 by omega, List.getElem?_cons_succ]
      exact List.getElem?_concat_length ..
    have rml : ((row.map oN).map PV.d).length = row.length := by rw [List.length_map, List.length_map]
    refine w_cut (fun e hh => ∃ (X gs : Hs) (rc : Nat) (row : List (Option Nat)) (e10 : Option PV), Dn n h X ∧ row.length ≤ 4 ∧ (∀ g, some g ∈ row → g < m) ∧ h.length ≤ rc ∧ hh = (X ++ es) ++ Cell.lst ((pls.map plD).map .d) :: gs ∧ hh[rc]? = some (.lst ((row.map oN).map .d)) ∧ e = E m (some (.ref h.length)) (some (.ref c)) (some (.d (.int (i : Nat)))) (some (.ref (h.length + es.length))) (some (.ref rc)) e10 e11) ?_ ?_
    · simp only [Pe.Pw.ws, List.set_cons_zero, List.set_cons_succ, List.length_cons, List.length_nil, List.map_cons, List.map_nil, List.cons_append, List.nil_append, List.replicate_succ, List.replicate_zero, Nat.reduceSub, Nat.reduceAdd, Nat.reduceLT, true_and, and_true, if_true, Bool.false_eq_true, if_false, true_implies, false_implies, forall_const, decide_eq_true_eq, decide_eq_false_iff_not, Bool.not_eq_true', Bool.not_eq_false', reduceCtorEq, E, w_lenR (cr X xl), rml]
      refine ⟨fun l4 => ?_, fun _ => ⟨X, _, _, row, _, b, rl, rg, by omega, rfl, cr X xl, rfl⟩⟩
      have dX : Dr n ((X ++ es) ++ Cell.lst ((pls.map plD).map .d) :: (gs ++ [Cell.lst ((row.map oN).map .d)])) := (b.dr a).app.app
      refine take_w it (by decide) dX fun r g r0 r1 b1 => ?_
      rw [List.append_assoc] at b1
      obtain ⟨X2, rfl, c2⟩ := b1.split (by omega)
      have b2 := b.trans c2
      rw [← List.append_assoc]
      simp only [Pe.Pw.ws, List.set_cons_zero, List.set_cons_succ, List.length_cons, List.length_nil, List.map_cons, List.map_nil, List.cons_append, List.nil_append, List.replicate_succ, List.replicate_zero, Nat.reduceSub, Nat.reduceAdd, Nat.reduceLT, true_and, and_true, if_true, Bool.false_eq_true, if_false, true_implies, false_implies, forall_const, decide_eq_true_eq, decide_eq_false_iff_not, Bool.not_eq_true', Bool.not_eq_false', reduceCtorEq]
      refine ⟨fun _ => ?_, fun _ => ⟨X2, _, _, row, _, b2, rl, rg, by omega, rfl, cr X2 b2.len, rfl⟩⟩
      simp only [Pe.Pw.ws, List.set_cons_zero, List.set_cons_succ, List.length_cons, List.length_nil, List.map_cons, List.map_nil, List.cons_append, List.nil_append, List.replicate_succ, List.replicate_zero, Nat.reduceSub, Nat.reduceAdd, Nat.reduceLT, true_and, and_true, if_true, Bool.false_eq_true, if_false, true_implies, false_implies, forall_const, decide_eq_true_eq, decide_eq_false_iff_not, Bool.not_eq_true', Bool.not_eq_false', reduceCtorEq, w_lenR (cr X2 b2.len), rml]
      have dX2 : Dr n ((X2 ++ es) ++ Cell.lst ((pls.map plD).map .d) :: (gs ++ [Cell.lst ((row.map oN).map .d)])) := (b2.dr a).app.app
      refine take_w it (by omega) dX2 fun sp g s0 s1 b1 => ?_
      rw [List.append_assoc] at b1
      obtain ⟨X3, rfl, c3⟩ := b1.split (by have := b2.len; omega)
      have b3 := b2.trans c3
      obtain ⟨sp, rfl⟩ := Int.eq_ofNat_of_zero_le s0
      rw [← List.append_assoc]
      simp only [Pe.Pw.ws, List.set_cons_zero, List.set_cons_succ, List.length_cons, List.length_nil, List.map_cons, List.map_nil, List.cons_append, List.nil_append, List.replicate_succ, List.replicate_zero, Nat.reduceSub, Nat.reduceAdd, Nat.reduceLT, true_and, and_true, if_true, Bool.false_eq_true, if_false, true_implies, false_implies, forall_const, decide_eq_true_eq, decide_eq_false_iff_not, Bool.not_eq_true', Bool.not_eq_false', reduceCtorEq, w_slR (cr X3 b3.len)]
      rw [cut_hi, cut_lo]
      have em : ((row.map oN).map PV.d).take sp ++ [PV.d .non] ++ ((row.map oN).map PV.d).drop sp = ((row.take sp ++ [none] ++ row.drop sp).map oN).map .d := by simp [List.map_take, List.map_drop, oN]
      have l4 : row.length < 4 := by omega
      refine ⟨sz, by rw [List.length_take]; omega, by rw [List.length_append, List.length_take, List.length_drop, List.length_singleton]; omega, ?_⟩
      rw [em, conv_tld]
      refine ⟨X3, _, _, row.take sp ++ [none] ++ row.drop sp, _, b3, by simp only [List.length_append, List.length_take, List.length_drop, List.length_singleton]; omega, fun g hg => ?_, ?_, by rw [List.append_assoc (X3 ++ es), List.cons_append], List.getElem?_concat_length .., rfl⟩
      · rcases List.mem_append.mp hg with hg | hg
        · rcases List.mem_append.mp hg with hg | hg
          · exact rg g (List.mem_of_mem_take hg)
          · cases List.mem_singleton.mp hg
        · exact rg g (List.mem_of_mem_drop hg)
      · have := b3.len
        simp only [List.length_append]
        omega
    clear b xl cr rml rl rg row X gs
    rintro _ _ ⟨X, gs, rc, row, e10, b, rl, rg, hrc, rfl, cr, rfl⟩
    have xl := b.len
    simp only [Pe.Pw.ws, List.set_cons_zero, List.set_cons_succ, List.length_cons, List.length_nil, List.map_cons, List.map_nil, List.cons_append, List.nil_append, List.replicate_succ, List.replicate_zero, Nat.reduceSub, Nat.reduceAdd, Nat.reduceLT, true_and, and_true, if_true, Bool.false_eq_true, if_false, true_implies, false_implies, forall_const, decide_eq_true_eq, decide_eq_false_iff_not, Bool.not_eq_true', Bool.not_eq_false', reduceCtorEq, E]
    refine pick_r ip it (ewk X _ xl) (by omega) (by rw [List.length_map]; exact wl) (b.dr a).app.app fun v g hv b1 => ?_
    rw [List.append_assoc] at b1
    obtain ⟨X2, rfl, c2⟩ := b1.split (by omega)
    have b2 := b.trans c2
    obtain ⟨w, hw, rfl⟩ := List.mem_map.mp hv
    have cr2 : (X2 ++ (es ++ Cell.lst ((pls.map plD).map .d) :: gs))[rc]? = some (.lst ((row.map oN).map .d)) := by
      rw [List.append_assoc, List.getElem?_append_right (by omega)] at cr
      rw [List.getElem?_append_right (by have := b2.len; omega), b2.len, ← xl]
      exact cr
    have tc : (X2 ++ (es ++ Cell.lst ((pls.map plD).map PV.d) :: gs))[h.length + es.length]? = some (.lst ((pls.map plD).map .d)) := by
      rw [← List.append_assoc, show h.length + es.length = (X2 ++ es).length by rw [List.length_append, b2.len]]
      exact gA0
    have ts : ∀ x, (X2 ++ (es ++ Cell.lst ((pls.map plD).map PV.d) :: gs)).set (h.length + es.length) x = (X2 ++ es) ++ x :: gs := fun x => by
      rw [← List.append_assoc, show h.length + es.length = (X2 ++ es).length by rw [List.length_append, b2.len]]
      exact sA0
    simp only [Pe.Pw.ws, List.set_cons_zero, List.set_cons_succ, List.length_cons, List.length_nil, List.map_cons, List.map_nil, List.cons_append, List.nil_append, List.replicate_succ, List.replicate_zero, Nat.reduceSub, Nat.reduceAdd, Nat.reduceLT, true_and, and_true, if_true, Bool.false_eq_true, if_false, true_implies, false_implies, forall_const, decide_eq_true_eq, decide_eq_false_iff_not, Bool.not_eq_true', Bool.not_eq_false', reduceCtorEq, w_tupR cr2, mkTup_ds, mkTup_2]
    refine ⟨sz, ?_⟩
    rw [w_app (h := X2 ++ _) tc (show ((pls.map plD).map PV.d).length < sizeLine by rw [List.length_map, List.length_map]; omega), ts]
    refine ⟨X2, gs, pls ++ [(w, row)], _, _, _, _, b2, by simp [pl], fun p hp => ?_, by simp, rfl⟩
    rcases List.mem_append.mp hp with hp | hp
    · exact pok p hp
    · rw [List.mem_singleton.mp hp]
      exact ⟨rl, rg, wok w hw⟩
  rintro _ _ ⟨X, gs, pls, e7, e9, e10, e11, b, pl, pok, rfl, rfl⟩
  have tc : ((X ++ es) ++ Cell.lst ((pls.map plD).map PV.d) :: gs)[h.length + es.length]? = some (.lst ((pls.map plD).map .d)) := by
    rw [show h.length + es.length = (X ++ es).length by rw [List.length_append, b.len]]
    exact gA0
  simp only [Pe.Pw.ws, List.set_cons_zero, List.set_cons_succ, List.length_cons, List.length_nil, List.map_cons, List.map_nil, List.cons_append, List.nil_append, List.replicate_succ, List.replicate_zero, Nat.reduceSub, Nat.reduceAdd, Nat.reduceLT, true_and, and_true, if_true, Bool.false_eq_true, if_false, true_implies, false_implies, forall_const, decide_eq_true_eq, decide_eq_false_iff_not, Bool.not_eq_true', Bool.not_eq_false', reduceCtorEq, E, w_tupR tc, mkTup_ds]
  rw [List.append_assoc, b.take]
  exact q pls X (by omega) (by omega) (by rw [pl]; exact pok) b
end
end Pe.Pw
/-! Pe: where a walker may stand (standing), and the law's own. -/
namespace Pe.Pw
open PySem
def sgt (t : List Pl) (g : Nat) : D := sight (t.getD g (default, []))
def fitB (t : List Pl) (w : List Nat) (seen : List D) (p : Nat) : Bool := PyData.eqv (showsP t p w).py (D.tup seen).py
def fitL (t : List Pl) (w : List Nat) (seen : List D) : List Nat := (List.range t.length).filter (fitB t w seen)
def standL (t : List Pl) (w : List Nat) (seen : List D) : List Int := (fitL t w seen).map fun p => ((endP t p w).getD 0 : Int)
def nextO (t : List Pl) (dd : Nat) (s : D) (p : Nat) : Option Int := match stepP (t.getD p (default, [])) dd with
  | some g => if PyData.eqv (sgt t g).py s.py then some (g : Int) else none
  | none => none
def nextL (t : List Pl) (ps : List Nat) (dd : Nat) (s : D) : List Int := ps.filterMap (nextO t dd s)
def misAt (t : List Pl) (w : List Nat) (seen : List D) (p j : Nat) : Option D := match endP t p (w.take j) with
  | none => some (.tup [.int (j : Nat), .str (Str.ofString "door")])
  | some g => if PyData.eqv (sgt t g).py (seen.getD j .non).py then none else some (.tup [.int (j : Nat), .str (Str.ofString "sight")])
def misV (t : List Pl) (w : List Nat) (seen : List D) (p : Nat) : D := ((List.range seen.length).findSome? (misAt t w seen p)).getD .non
/-- what may be seen -/
structure SeOk (n : Nat) (seen : List D) : Prop where
  len : seen.length = n
  sm : ∀ s ∈ seen, Sm 3 s ∧ nbD s = true
section
variable {t : List Pl} {w : List Nat} {seen : List D} {p : Nat}
theorem sight_ok {q : Pl} (h : PyData.strOk q.1 = true) (hl : q.2.length ≤ 1000) {k : Nat} : Sm (k + 2) (sight q) ∧ nbD (sight q) = true := by
  refine ⟨⟨(sz : 2 ≤ sizeLine), fun x hx => ?_⟩, ?_⟩
  · simp only [List.mem_cons, List.not_mem_nil, or_false] at hx
    rcases hx with rfl | rfl
    · exact h
    · refine ⟨by rw [List.length_map]; exact sz (by omega), fun y hy => ?_⟩
      obtain ⟨g, _, rfl⟩ := List.mem_map.mp hy
      cases k <;> exact True.intro
  · show nbsD [.str q.1, .tup (q.2.map fun g => .int (if g.isSome = true then 1 else 0))] = true
    rw [nbs_iff]
    intro x hx
    simp only [List.mem_cons, List.not_mem_nil, or_false] at hx
    rcases hx with rfl | rfl
    · rfl
    · rw [nbD, nbs_iff]
      intro y hy
      obtain ⟨g, _, rfl⟩ := List.mem_map.mp hy
      rfl
theorem sgt_at {g : Nat} (hg : g < t.length) : sgt t g = sight t[g] := by
  unfold sgt
  rw [List.getD_eq_getElem?_getD, List.getElem?_eq_getElem hg]
  rfl
theorem sgt_ok (ok : TownOk t) {g k : Nat} (hg : g < t.length) : Sm (k + 2) (sgt t g) ∧ nbD (sgt t g) = true := by
  rw [sgt_at hg]
  exact sight_ok (ok.mark _ (List.getElem_mem hg)).1 (by have := ok.doors _ (List.getElem_mem hg); omega)
theorem sightAt_sgt (ok : TownOk t) {g j : Nat} (e : endP t p (w.take j) = some g) (hp : p < t.length) : sightAt t p (w.take j) = sgt t g := by
  have hg := endP_lt ok _ _ _ hp e
  rw [sightAt_eq e (List.getElem?_eq_getElem hg), sgt_at hg]
theorem shows_ok (ok : TownOk t) (hp : p < t.length) (hw : w.length ≤ 1000) : Sm 4 (showsP t p w) ∧ nbD (showsP t p w) = true := by
  unfold showsP
  cases e : endP t p w with
  | none => exact ⟨True.intro, rfl⟩
  | some g =>
    have each : ∀ x ∈ (List.range (w.length + 1)).map (fun j => sightAt t p (w.take j)), Sm 3 x ∧ nbD x = true := fun x hx => by
      obtain ⟨j, _, rfl⟩ := List.mem_map.mp hx
      obtain ⟨g', e'⟩ := endP_take w p g j e
      rw [sightAt_sgt ok e' hp]
      exact sgt_ok (k := 1) ok (endP_lt ok _ _ _ hp e')
    refine ⟨⟨by rw [List.length_map, List.length_range]; exact sz (by omega), fun x hx => (each x hx).1⟩, ?_⟩
    show nbsD _ = true
    exact nbs_iff.mpr fun x hx => (each x hx).2
theorem seen_ok {n : Nat} (s : SeOk n seen) (hn : n ≤ 1000) : Sm 4 (.tup seen) ∧ nbD (.tup seen) = true :=
  ⟨⟨by rw [s.len]; exact sz (by omega), fun x hx => (s.sm x hx).1⟩, by rw [nbD]; exact nbs_iff.mpr fun x hx => (s.sm x hx).2⟩
/-- it fits -/
theorem fit_iff (ok : TownOk t) (hp : p < t.length) (hw : w.length ≤ 900) (s : SeOk (w.length + 1) seen) : fitB t w seen p = true ↔ ∀ j, j ≤ w.length → ∃ g, endP t p (w.take j) = some g ∧ seen[j]? = some (sgt t g) := by
  unfold fitB
  rw [eqv_nb _ _ (shows_ok ok hp (by omega)).2 (seen_ok s (by omega)).2]
  constructor
  · intro h j hj
    unfold showsP at h
    cases e : endP t p w with
    | none => rw [e] at h; cases h
    | some g =>
      rw [e] at h
      obtain ⟨g', e'⟩ := endP_take w p g j e
      refine ⟨g', e', ?_⟩
      have h := D.tup.inj h
      rw [← h, List.getElem?_map, List.getElem?_range (by omega)]
      exact congrArg some (sightAt_sgt ok e' hp)
  · intro h
    obtain ⟨g, e, _⟩ := h w.length (Nat.le_refl _)
    rw [List.take_length] at e
    unfold showsP
    rw [e]
    dsimp only
    congr 1
    apply List.ext_getElem?
    intro j
    by_cases hj : j ≤ w.length
    · obtain ⟨g', e', es⟩ := h j hj
      rw [List.getElem?_map, List.getElem?_range (by omega), es]
      exact congrArg some (sightAt_sgt ok e' hp)
    · rw [List.getElem?_eq_none (by rw [List.length_map, List.length_range]; omega), List.getElem?_eq_none (by rw [s.len]; omega)]
theorem mis_iff (ok : TownOk t) (hp : p < t.length) (hw : w.length ≤ 900) (s : SeOk (w.length + 1) seen) : misV t w seen p = .non ↔ fitB t w seen p = true := by
  rw [fit_iff ok hp hw s]
  have at_ : ∀ j, j ≤ w.length → (misAt t w seen p j = none ↔ ∃ g, endP t p (w.take j) = some g ∧ seen[j]? = some (sgt t g)) := fun j hj => by
    have hs : j < seen.length := by rw [s.len]; omega
    unfold misAt
    cases e : endP t p (w.take j) with
    | none => exact ⟨(fun h => by cases h), fun ⟨g, h, _⟩ => by cases h⟩
    | some g =>
      dsimp only
      have gd : seen.getD j .non = seen[j] := by rw [List.getD_eq_getElem?_getD, List.getElem?_eq_getElem hs]; rfl
      have nb2 := (s.sm _ (List.getElem_mem hs)).2
      have nb1 := (sgt_ok (k := 1) ok (endP_lt ok _ _ _ hp e)).2
      rw [gd]
      constructor
      · intro h
        refine ⟨g, rfl, ?_⟩
        split at h
        · rename_i c
          rw [List.getElem?_eq_getElem hs, ← (eqv_nb _ _ nb1 nb2).mp c]
        · cases h
      · rintro ⟨g', h, e2⟩
        cases h
        rw [List.getElem?_eq_getElem hs] at e2
        rw [if_pos ((eqv_nb _ _ nb1 nb2).mpr (Option.some.inj e2).symm)]
  have notnon : ∀ j d, misAt t w seen p j = some d → d ≠ .non := fun j d h => by
    unfold misAt at h
    split at h
    · cases h; exact fun c => by cases c
    · split at h
      · cases h
      · cases h; exact fun c => by cases c
  unfold misV
  constructor
  · intro h j hj
    rw [← at_ j hj]
    cases q : (List.range seen.length).findSome? (misAt t w seen p) with
    | none => exact List.findSome?_eq_none_iff.mp q j (List.mem_range.mpr (by rw [s.len]; omega))
    | some d =>
      rw [q] at h
      obtain ⟨j2, _, e⟩ := List.exists_of_findSome?_eq_some q
      exact absurd h (notnon j2 d e)
  · intro h
    have : (List.range seen.length).findSome? (misAt t w seen p) = none := List.findSome?_eq_none_iff.mpr fun j hj => (at_ j (by have := List.mem_range.mp hj; rw [s.len] at this; omega)).mpr (h j (by have := List.mem_range.mp hj; rw [s.len] at this; omega))
    rw [this]
    rfl
end
end Pe.Pw
/-! Pe: fitting_places .. standing_behind, misfit_of, and the law's own: walks through them. -/
namespace Pe.Pw
open PySem
section
variable {FT : List Fn} {h : Hs} {Q : PV → Hs → Prop} {n d f : Nat} {t : List Pl} {w : List Nat} {seen : List D} {p : Nat}
theorem its_cellG {α : Type} {l : List α} {c : Nat} {xs : List PV} {g : α → PV} (e : h[c]? = some (.lst xs)) (x : xs = l.map g) : Its (.seq (.cell c)) h (l.map g) := by
  rw [← x]
  exact its_cell e
theorem nsD_rng {l : List Nat} : (l.map fun j : Nat => PV.d (.int (j : Nat))) = (nsD l).map .d := by
  unfold nsD
  rw [List.map_map]
  rfl
def fittingPB (al : Nat) : List S := [.ret (.blt .tuple [(.comp [3] (.nm 3) (.rng1 (.blt .len [(.var 0)])) true (.cmp .eq (.call al [(.var 0), (.var 3), (.var 1)]) (.var 2)) (.var 3))])]
theorem fittingP_e {al st si : Nat} (is : Is FT f 3 4 (fittingPB al)) (ial : Is FT al 3 6 (alongB st si)) (ist : Is FT st 3 4 stepB) (isi : Is FT si 2 5 sightB) (ok : TownOk t) (hw : w.length ≤ 900) (s : SeOk (w.length + 1) seen) : cal FT (d + 3) f [.d (townD t), .d (walkD w), .d (.tup seen)] h = some (.d (.tup (nsD (fitL t w seen))), h) := by
  refine eq_of_wp (is.call rfl ?_)
  unfold fittingPB
  have hz : sizeLine = 2 ^ 24 := rfl
  have tl := ok.len
  simp only [Pe.Pw.ws, List.set_cons_zero, List.set_cons_succ, List.length_cons, List.length_nil, List.map_cons, List.map_nil, List.cons_append, List.nil_append, List.replicate_succ, List.replicate_zero, Nat.reduceSub, Nat.reduceAdd, Nat.reduceLT, true_and, and_true, if_true, Bool.false_eq_true, if_false, true_implies, false_implies, forall_const, decide_eq_true_eq, decide_eq_false_iff_not, Bool.not_eq_true', Bool.not_eq_false', reduceCtorEq, List.length_map]
  refine ⟨by omega, ?_⟩
  rw [show ((t.length : Int) - 0).toNat = t.length by omega]
  refine w_clp (fitB t w seen) (fun j => .d (.int (j : Nat))) (by omega) (fun j hj => ?_) ?_
  · rw [Int.zero_add]
    have e1 := along_e (h := h) (d := d) (t := t) (k := j) (w := w) ial ist isi ok hj (by omega)
    have sh := (shows_ok (t := t) (w := w) (p := j) ok hj (by omega)).1
    simp only [Pe.Pw.ws, List.set_cons_zero, List.set_cons_succ, List.length_cons, List.length_nil, List.map_cons, List.map_nil, List.cons_append, List.nil_append, List.replicate_succ, List.replicate_zero, Nat.reduceSub, Nat.reduceAdd, Nat.reduceLT, true_and, and_true, if_true, Bool.false_eq_true, if_false, true_implies, false_implies, forall_const, decide_eq_true_eq, decide_eq_false_iff_not, Bool.not_eq_true', Bool.not_eq_false', reduceCtorEq, w_iff e1, w_eqD (k := 4) (by decide) sh (seen_ok s (by omega)).1]
    unfold fitB
    cases PyData.eqv (showsP t j w).py (D.tup seen).py <;> simp
  · rw [nsD_rng]
    simp only [Pe.Pw.ws, List.set_cons_zero, List.set_cons_succ, List.length_cons, List.length_nil, List.map_cons, List.map_nil, List.cons_append, List.nil_append, List.replicate_succ, List.replicate_zero, Nat.reduceSub, Nat.reduceAdd, Nat.reduceLT, true_and, and_true, if_true, Bool.false_eq_true, if_false, true_implies, false_implies, forall_const, decide_eq_true_eq, decide_eq_false_iff_not, Bool.not_eq_true', Bool.not_eq_false', reduceCtorEq, mkTup_ds, take_self]
    exact rfl
theorem fitL_lt (hp : p ∈ fitL t w seen) : p < t.length := List.mem_range.mp (List.mem_filter.mp hp).1
theorem fitL_end (ok : TownOk t) (hw : w.length ≤ 900) (s : SeOk (w.length + 1) seen) (hp : p ∈ fitL t w seen) : ∃ g, endP t p w = some g := by
  have := (fit_iff ok (fitL_lt hp) hw s).mp (List.mem_filter.mp hp).2 w.length (Nat.le_refl _)
  obtain ⟨g, e, _⟩ := this
  rw [List.take_length] at e
  exact ⟨g, e⟩
theorem fitL_len : (fitL t w seen).length ≤ t.length := Nat.le_trans (List.length_filter_le _ _) (by rw [List.length_range]; exact Nat.le_refl _)
def standingPB (ix fi le : Nat) : List S := [.ret (.call ix [(.comp [3] (.nm 3) (.seq (.call fi [(.var 0), (.var 1), (.var 2)])) false (.cst (.bl true)) (.call le [(.var 0), (.var 3), (.var 1)]))])]
theorem standingP_e {ix fi le al st si : Nat} (is : Is FT f 3 4 (standingPB ix fi le)) (iix : Is FT ix 1 2 indexSetB) (ifi : Is FT fi 3 4 (fittingPB al)) (ile : Is FT le 3 5 (ledB st)) (ial : Is FT al 3 6 (alongB st si)) (ist : Is FT st 3 4 stepB) (isi : Is FT si 2 5 sightB) (ok : TownOk t) (hw : w.length ≤ 900) (s : SeOk (w.length + 1) seen) :
    cal FT (d + 4) f [.d (townD t), .d (walkD w), .d (.tup seen)] h = some (.d (.tup ((setI (standL t w seen)).map D.int)), h) := by
  refine eq_of_wp (is.call rfl ?_)
  unfold standingPB
  have hz : sizeLine = 2 ^ 24 := rfl
  have tl := ok.len
  have fl := fitL_len (t := t) (w := w) (seen := seen)
  simp only [Pe.Pw.ws, List.set_cons_zero, List.set_cons_succ, List.length_cons, List.length_nil, List.map_cons, List.map_nil, List.cons_append, List.nil_append, List.replicate_succ, List.replicate_zero, Nat.reduceSub, Nat.reduceAdd, Nat.reduceLT, true_and, and_true, if_true, Bool.false_eq_true, if_false, true_implies, false_implies, forall_const, decide_eq_true_eq, decide_eq_false_iff_not, Bool.not_eq_true', Bool.not_eq_false', reduceCtorEq, w_iff (fittingP_e (h := h) (d := d) ifi ial ist isi ok hw s)]
  refine w_clx (fitL t w seen) (fun j => .d (.int (j : Nat))) (fun j => .d (.int ((endP t j w).getD 0 : Nat))) (by rw [nsD_rng]; exact its_imm) (by omega) (fun j hj => ?_) ?_
  · obtain ⟨g, e⟩ := fitL_end ok hw s hj
    have e1 := led_e (h := h) (d := d + 1) (t := t) (k := j) (w := w) ile (fun h k g p e => step_e (d := d + 1) ist e) ok (fitL_lt hj)
    rw [e] at e1
    simp only [Pe.Pw.ws, List.set_cons_zero, List.set_cons_succ, List.length_cons, List.length_nil, List.map_cons, List.map_nil, List.cons_append, List.nil_append, List.replicate_succ, List.replicate_zero, Nat.reduceSub, Nat.reduceAdd, Nat.reduceLT, true_and, and_true, if_true, Bool.false_eq_true, if_false, true_implies, false_implies, forall_const, decide_eq_true_eq, decide_eq_false_iff_not, Bool.not_eq_true', Bool.not_eq_false', reduceCtorEq, w_iff e1, e]
    exact rfl
  · rw [show ((fitL t w seen).map fun j => PV.d (.int ((endP t j w).getD 0 : Nat))) = ((standL t w seen).map D.int).map .d by unfold standL; rw [List.map_map, List.map_map]; rfl]
    have e2 := indexSetI_e (h := h) (d := d + 2) (is := standL t w seen) iix (by unfold standL; rw [List.length_map]; omega)
    simp only [Pe.Pw.ws, List.set_cons_zero, List.set_cons_succ, List.length_cons, List.length_nil, List.map_cons, List.map_nil, List.cons_append, List.nil_append, List.replicate_succ, List.replicate_zero, Nat.reduceSub, Nat.reduceAdd, Nat.reduceLT, true_and, and_true, if_true, Bool.false_eq_true, if_false, true_implies, false_implies, forall_const, decide_eq_true_eq, decide_eq_false_iff_not, Bool.not_eq_true', Bool.not_eq_false', reduceCtorEq, w_iff e2, take_self]
def surelyB (sp : Nat) : List S := [.asg (.nm 3) (.call sp [(.var 0), (.var 1), (.var 2)]), .ife (.cmp .eq (.blt .len [(.var 3)]) (.cst (.int 1))) [.ret (.idx (.var 3) (.cst (.int 0)))] [], .ret (.cst .non)]
def oneV (l : List Int) : D := match l with
  | [x] => .int x
  | _ => .non
theorem surely_e {sp : Nat} {x y z : D} {l : List Int} (is : Is FT f 3 4 (surelyB sp)) (hs : ∀ h, cal FT d sp [.d x, .d y, .d z] h = some (.d (.tup (l.map D.int)), h)) : cal FT (d + 1) f [.d x, .d y, .d z] h = some (.d (oneV l), h) := by
  refine eq_of_wp (is.call rfl ?_)
  unfold surelyB
  simp only [Pe.Pw.ws, List.set_cons_zero, List.set_cons_succ, List.length_cons, List.length_nil, List.map_cons, List.map_nil, List.cons_append, List.nil_append, List.replicate_succ, List.replicate_zero, Nat.reduceSub, Nat.reduceAdd, Nat.reduceLT, true_and, and_true, if_true, Bool.false_eq_true, if_false, true_implies, false_implies, forall_const, decide_eq_true_eq, decide_eq_false_iff_not, Bool.not_eq_true', Bool.not_eq_false', reduceCtorEq, w_iff (hs _), List.length_map]
  match l with
  | [] =>
    refine ⟨fun c => absurd c (by decide), fun _ => ?_⟩
    rw [take_self]
    exact ⟨rfl, rfl⟩
  | [a] =>
    refine ⟨fun _ => ?_, fun c => absurd rfl c⟩
    rw [w_ixT (x := .int a) (by rfl)]
    simp only [Pe.Pw.ws, List.set_cons_zero, List.set_cons_succ, List.length_cons, List.length_nil, List.map_cons, List.map_nil, List.cons_append, List.nil_append, List.replicate_succ, List.replicate_zero, Nat.reduceSub, Nat.reduceAdd, Nat.reduceLT, true_and, and_true, if_true, Bool.false_eq_true, if_false, true_implies, false_implies, forall_const, decide_eq_true_eq, decide_eq_false_iff_not, Bool.not_eq_true', Bool.not_eq_false', reduceCtorEq, take_self]
    exact rfl
  | a :: b :: r =>
    refine ⟨fun c => absurd c (by simp; omega), fun _ => ?_⟩
    rw [take_self]
    exact ⟨rfl, rfl⟩
def behindPB (st ix si : Nat) : List S := [.asg (.nm 4) (.comp [5] (.nm 5) (.seq (.var 1)) false (.cst (.bl true)) (.call st [(.var 0), (.var 5), (.var 2)])), .ret (.call ix [(.comp [6] (.nm 6) (.seq (.var 4)) true (.an (.cmp .notN (.var 6) (.cst .non)) (.cmp .eq (.call si [(.var 0), (.var 6)]) (.var 3))) (.var 6))])]
theorem getD_pl {ps : List Nat} {p : Nat} (hp : p < t.length) : t[p]? = some (t.getD p (default, [])) := by
  rw [List.getD_eq_getElem?_getD, List.getElem?_eq_getElem hp]
  rfl
theorem behindP_e {st ix si dd : Nat} {ps : List Nat} {s : D} (is : Is FT f 4 7 (behindPB st ix si)) (iix : Is FT ix 1 2 indexSetB) (ist : Is FT st 3 4 stepB) (isi : Is FT si 2 5 sightB) (ok : TownOk t) (hp : ∀ p ∈ ps, p < t.length) (pl : ps.length ≤ 1000) (sm : Sm 3 s) :
    cal FT (d + 2) f [.d (townD t), .d (.tup (nsD ps)), .d (.int (dd : Nat)), .d s] h = some (.d (.tup ((setI (nextL t ps dd s)).map D.int)), h) := by
  refine eq_of_wp (is.call rfl ?_)
  unfold behindPB
  have hz : sizeLine = 2 ^ 24 := rfl
  let go : List (Option Nat) := ps.map fun p => stepP (t.getD p (default, [])) dd
  refine w_cut (fun e hh => hh = h ++ [Cell.lst ((go.map oN).map .d)] ∧ ∃ e5, e = [some (.d (townD t)), some (.d (.tup (nsD ps))), some (.d (.int (dd : Nat))), some (.d s), some (.ref h.length), e5, none]) ?_ ?_
  · simp only [Pe.Pw.ws, List.set_cons_zero, List.set_cons_succ, List.length_cons, List.length_nil, List.map_cons, List.map_nil, List.cons_append, List.nil_append, List.replicate_succ, List.replicate_zero, Nat.reduceSub, Nat.reduceAdd, Nat.reduceLT, true_and, and_true, if_true, Bool.false_eq_true, if_false, true_implies, false_implies, forall_const, decide_eq_true_eq, decide_eq_false_iff_not, Bool.not_eq_true', Bool.not_eq_false', reduceCtorEq]
    refine w_clx ps (fun j => .d (.int (j : Nat))) (fun j => .d (oN (stepP (t.getD j (default, [])) dd))) (by rw [nsD_rng]; exact its_imm) (by omega) (fun j hj => ?_) ?_
    · simp only [Pe.Pw.ws, List.set_cons_zero, List.set_cons_succ, List.length_cons, List.length_nil, List.map_cons, List.map_nil, List.cons_append, List.nil_append, List.replicate_succ, List.replicate_zero, Nat.reduceSub, Nat.reduceAdd, Nat.reduceLT, true_and, and_true, if_true, Bool.false_eq_true, if_false, true_implies, false_implies, forall_const, decide_eq_true_eq, decide_eq_false_iff_not, Bool.not_eq_true', Bool.not_eq_false', reduceCtorEq, w_iff (step_e (h := h) (d := d) (t := t) (k := j) (g := dd) ist (getD_pl (ps := ps) (hp j hj)))]
    · rw [show (ps.map fun j => PV.d (oN (stepP (t.getD j (default, [])) dd))) = (go.map oN).map .d by show _ = ((ps.map fun p => stepP (t.getD p (default, [])) dd).map oN).map PV.d; rw [List.map_map, List.map_map]; rfl, conv_tld]
      exact ⟨rfl, _, rfl⟩
  rintro _ _ ⟨rfl, e5, rfl⟩
  have ec : (h ++ [Cell.lst ((go.map oN).map .d)])[h.length]? = some (.lst ((go.map oN).map .d)) := gA0
  have gl : go.length = ps.length := List.length_map ..
  simp only [Pe.Pw.ws, List.set_cons_zero, List.set_cons_succ, List.length_cons, List.length_nil, List.map_cons, List.map_nil, List.cons_append, List.nil_append, List.replicate_succ, List.replicate_zero, Nat.reduceSub, Nat.reduceAdd, Nat.reduceLT, true_and, and_true, if_true, Bool.false_eq_true, if_false, true_implies, false_implies, forall_const, decide_eq_true_eq, decide_eq_false_iff_not, Bool.not_eq_true', Bool.not_eq_false', reduceCtorEq]
  refine w_clf ps (fun j => .d (oN (stepP (t.getD j (default, [])) dd))) (fun j => (nextO t dd s j).map fun i => PV.d (.int i)) (its_cellG ec (show (go.map oN).map PV.d = ps.map fun j => PV.d (oN (stepP (t.getD j (default, [])) dd)) by show ((ps.map fun p => stepP (t.getD p (default, [])) dd).map oN).map PV.d = _; rw [List.map_map, List.map_map]; rfl)) (by omega) (fun j hj => ?_) ?_
  · unfold nextO
    cases q : stepP (t.getD j (default, [])) dd with
    | none =>
      simp only [Pe.Pw.ws, List.set_cons_zero, List.set_cons_succ, List.length_cons, List.length_nil, List.map_cons, List.map_nil, List.cons_append, List.nil_append, List.replicate_succ, List.replicate_zero, Nat.reduceSub, Nat.reduceAdd, Nat.reduceLT, true_and, and_true, if_true, Bool.false_eq_true, if_false, true_implies, false_implies, forall_const, decide_eq_true_eq, decide_eq_false_iff_not, Bool.not_eq_true', Bool.not_eq_false', reduceCtorEq, oN, isNon, Bool.not_true]
      exact rfl
    | some g =>
      have hg : g < t.length := by
        have m := stepP_mem q
        have hj2 := hp j hj
        rw [List.getD_eq_getElem?_getD, List.getElem?_eq_getElem hj2] at m
        exact ok.goals _ (List.getElem_mem hj2) g m
      have e1 := sight_e (h := h ++ [Cell.lst ((go.map oN).map .d)]) (d := d) (t := t) (k := g) isi ok (List.getElem?_eq_getElem hg)
      rw [← sgt_at hg] at e1
      simp only [Pe.Pw.ws, List.set_cons_zero, List.set_cons_succ, List.length_cons, List.length_nil, List.map_cons, List.map_nil, List.cons_append, List.nil_append, List.replicate_succ, List.replicate_zero, Nat.reduceSub, Nat.reduceAdd, Nat.reduceLT, true_and, and_true, if_true, Bool.false_eq_true, if_false, true_implies, false_implies, forall_const, decide_eq_true_eq, decide_eq_false_iff_not, Bool.not_eq_true', Bool.not_eq_false', reduceCtorEq, oN, isNon, Bool.not_false, w_iff e1, w_eqD (k := 3) (by decide) (sgt_ok (k := 1) ok hg).1 sm]
      cases PyData.eqv (sgt t g).py s.py <;> simp
  · have e2 : ps.filterMap (fun j => (nextO t dd s j).map fun i => PV.d (.int i)) = ((nextL t ps dd s).map D.int).map .d := by
      unfold nextL
      exact fm_ints _ _
    have e3 := indexSetI_e (h := h ++ [Cell.lst ((go.map oN).map .d)]) (d := d) (is := nextL t ps dd s) iix (by unfold nextL; have := List.length_filterMap_le (nextO t dd s) ps; omega)
    rw [e2]
    simp only [Pe.Pw.ws, List.set_cons_zero, List.set_cons_succ, List.length_cons, List.length_nil, List.map_cons, List.map_nil, List.cons_append, List.nil_append, List.replicate_succ, List.replicate_zero, Nat.reduceSub, Nat.reduceAdd, Nat.reduceLT, true_and, and_true, if_true, Bool.false_eq_true, if_false, true_implies, false_implies, forall_const, decide_eq_true_eq, decide_eq_false_iff_not, Bool.not_eq_true', Bool.not_eq_false', reduceCtorEq, w_iff e3]
    rw [List.take_left]
def lnextB (go si : Nat) : List S := [.asg (.nm 4) (.comp [5] (.nm 5) (.seq (.var 1)) false (.cst (.bl true)) (.call go [(.var 0), (.var 5), (.var 2)])), .ret (.blt .tuple [(.sset (.comp [6] (.nm 6) (.seq (.var 4)) true (.an (.cmp .notN (.var 6) (.cst .non)) (.cmp .eq (.call si [(.var 0), (.var 6)]) (.var 3))) (.var 6)))])]
theorem setI_few {ns : List Int} {m : Nat} (hm : m < 60) (h : ∀ x ∈ ns, 0 ≤ x ∧ x < (m : Nat)) : (setI ns).length < 60 := by
  have := lt_len (setI ns) 0 m (Pe.setI_sorted ns) fun x hx => by
    rw [Pe.mem_setI] at hx
    exact ⟨(h x hx).1, by have := (h x hx).2; omega⟩
  omega
theorem next_lt {dd : Nat} {ps : List Nat} {s : D} (ok : TownOk t) (hp : ∀ p ∈ ps, p < t.length) : ∀ x ∈ nextL t ps dd s, 0 ≤ x ∧ x < (t.length : Nat) := fun x hx => by
  obtain ⟨p, hp2, e⟩ := List.mem_filterMap.mp hx
  unfold nextO at e
  split at e
  · rename_i g q
    split at e
    · cases e
      have m := stepP_mem q
      have hj2 := hp p hp2
      rw [List.getD_eq_getElem?_getD, List.getElem?_eq_getElem hj2] at m
      have := ok.goals _ (List.getElem_mem hj2) g m
      omega
    · cases e
  · cases e
theorem lnext_e {go si dd : Nat} {ps : List Nat} {s : D} (is : Is FT f 4 7 (lnextB go si)) (igo : Is FT go 3 4 goalB) (isi : Is FT si 2 5 sightB) (ok : TownOk t) (t60 : t.length < 60) (hp : ∀ p ∈ ps, p < t.length) (pl : ps.length ≤ 1000) (sm : Sm 3 s) :
    cal FT (d + 2) f [.d (townD t), .d (.tup (nsD ps)), .d (.int (dd : Nat)), .d s] h = some (.d (.tup ((setI (nextL t ps dd s)).map D.int)), h) := by
  refine eq_of_wp (is.call rfl ?_)
  unfold lnextB
  have hz : sizeLine = 2 ^ 24 := rfl
  let go : List (Option Nat) := ps.map fun p => stepP (t.getD p (default, [])) dd
  refine w_cut (fun e hh => hh = h ++ [Cell.lst ((go.map oN).map .d)] ∧ ∃ e5, e = [some (.d (townD t)), some (.d (.tup (nsD ps))), some (.d (.int (dd : Nat))), some (.d s), some (.ref h.length), e5, none]) ?_ ?_
  · simp only [Pe.Pw.ws, List.set_cons_zero, List.set_cons_succ, List.length_cons, List.length_nil, List.map_cons, List.map_nil, List.cons_append, List.nil_append, List.replicate_succ, List.replicate_zero, Nat.reduceSub, Nat.reduceAdd, Nat.reduceLT, true_and, and_true, if_true, Bool.false_eq_true, if_false, true_implies, false_implies, forall_const, decide_eq_true_eq, decide_eq_false_iff_not, Bool.not_eq_true', Bool.not_eq_false', reduceCtorEq]
    refine w_clx ps (fun j => .d (.int (j : Nat))) (fun j => .d (oN (stepP (t.getD j (default, [])) dd))) (by rw [nsD_rng]; exact its_imm) (by omega) (fun j hj => ?_) ?_
    · simp only [Pe.Pw.ws, List.set_cons_zero, List.set_cons_succ, List.length_cons, List.length_nil, List.map_cons, List.map_nil, List.cons_append, List.nil_append, List.replicate_succ, List.replicate_zero, Nat.reduceSub, Nat.reduceAdd, Nat.reduceLT, true_and, and_true, if_true, Bool.false_eq_true, if_false, true_implies, false_implies, forall_const, decide_eq_true_eq, decide_eq_false_iff_not, Bool.not_eq_true', Bool.not_eq_false', reduceCtorEq, w_iff (goal_e (h := h) (d := d) (t := t) (k := j) (g := dd) igo (getD_pl (ps := ps) (hp j hj)))]
    · rw [show (ps.map fun j => PV.d (oN (stepP (t.getD j (default, [])) dd))) = (go.map oN).map .d by show _ = ((ps.map fun p => stepP (t.getD p (default, [])) dd).map oN).map PV.d; rw [List.map_map, List.map_map]; rfl, conv_tld]
      exact ⟨rfl, _, rfl⟩
  rintro _ _ ⟨rfl, e5, rfl⟩
  have ec : (h ++ [Cell.lst ((go.map oN).map .d)])[h.length]? = some (.lst ((go.map oN).map .d)) := gA0
  simp only [Pe.Pw.ws, List.set_cons_zero, List.set_cons_succ, List.length_cons, List.length_nil, List.map_cons, List.map_nil, List.cons_append, List.nil_append, List.replicate_succ, List.replicate_zero, Nat.reduceSub, Nat.reduceAdd, Nat.reduceLT, true_and, and_true, if_true, Bool.false_eq_true, if_false, true_implies, false_implies, forall_const, decide_eq_true_eq, decide_eq_false_iff_not, Bool.not_eq_true', Bool.not_eq_false', reduceCtorEq, w_sset]
  refine w_clf ps (fun j => .d (oN (stepP (t.getD j (default, [])) dd))) (fun j => (nextO t dd s j).map fun i => PV.d (.int i)) (its_cellG ec (show (go.map oN).map PV.d = ps.map fun j => PV.d (oN (stepP (t.getD j (default, [])) dd)) by show ((ps.map fun p => stepP (t.getD p (default, [])) dd).map oN).map PV.d = _; rw [List.map_map, List.map_map]; rfl)) (by omega) (fun j hj => ?_) ?_
  · unfold nextO
    cases q : stepP (t.getD j (default, [])) dd with
    | none =>
      simp only [Pe.Pw.ws, List.set_cons_zero, List.set_cons_succ, List.length_cons, List.length_nil, List.map_cons, List.map_nil, List.cons_append, List.nil_append, List.replicate_succ, List.replicate_zero, Nat.reduceSub, Nat.reduceAdd, Nat.reduceLT, true_and, and_true, if_true, Bool.false_eq_true, if_false, true_implies, false_implies, forall_const, decide_eq_true_eq, decide_eq_false_iff_not, Bool.not_eq_true', Bool.not_eq_false', reduceCtorEq, oN, isNon, Bool.not_true]
      exact rfl
    | some g =>
      have hg : g < t.length := by
        have m := stepP_mem q
        have hj2 := hp j hj
        rw [List.getD_eq_getElem?_getD, List.getElem?_eq_getElem hj2] at m
        exact ok.goals _ (List.getElem_mem hj2) g m
      have e1 := sight_e (h := h ++ [Cell.lst ((go.map oN).map .d)]) (d := d) (t := t) (k := g) isi ok (List.getElem?_eq_getElem hg)
      rw [← sgt_at hg] at e1
      simp only [Pe.Pw.ws, List.set_cons_zero, List.set_cons_succ, List.length_cons, List.length_nil, List.map_cons, List.map_nil, List.cons_append, List.nil_append, List.replicate_succ, List.replicate_zero, Nat.reduceSub, Nat.reduceAdd, Nat.reduceLT, true_and, and_true, if_true, Bool.false_eq_true, if_false, true_implies, false_implies, forall_const, decide_eq_true_eq, decide_eq_false_iff_not, Bool.not_eq_true', Bool.not_eq_false', reduceCtorEq, oN, isNon, Bool.not_false, w_iff e1, w_eqD (k := 3) (by decide) (sgt_ok (k := 1) ok hg).1 sm]
      cases PyData.eqv (sgt t g).py s.py <;> simp
  · have e2 : ps.filterMap (fun j => (nextO t dd s j).map fun i => PV.d (.int i)) = ((nextL t ps dd s).map D.int).map .d := by
      unfold nextL
      exact fm_ints _ _
    have nl : (nextL t ps dd s).length ≤ ps.length := by unfold nextL; exact List.length_filterMap_le _ _
    rw [e2, w_ssetL (by omega) (setI_few t60 (next_lt ok hp))]
    simp only [Pe.Pw.ws, List.set_cons_zero, List.set_cons_succ, List.length_cons, List.length_nil, List.map_cons, List.map_nil, List.cons_append, List.nil_append, List.replicate_succ, List.replicate_zero, Nat.reduceSub, Nat.reduceAdd, Nat.reduceLT, true_and, and_true, if_true, Bool.false_eq_true, if_false, true_implies, false_implies, forall_const, decide_eq_true_eq, decide_eq_false_iff_not, Bool.not_eq_true', Bool.not_eq_false', reduceCtorEq, mkTup_ds]
    rw [List.take_left]
end
end Pe.Pw
/-! Pe: misfits; changed sights; lifted towns. -/
namespace Pe.Pw
open PySem
theorem find_at {α : Type} {f : Nat → Option α} {i : Nat} {d : α} : ∀ {n : Nat}, i < n → (∀ j, j < i → f j = none) → f i = some d → (List.range n).findSome? f = some d
  | 0, hi, _, _ => absurd hi (Nat.not_lt_zero _)
  | n + 1, hi, pre, e => by
    rw [List.range_succ, List.findSome?_append]
    by_cases h : i < n
    · rw [find_at h pre e]
      rfl
    · obtain rfl : i = n := by omega
      have : (List.range i).findSome? f = none := List.findSome?_eq_none_iff.mpr fun j hj => pre j (List.mem_range.mp hj)
      rw [this]
      simp [e]
section
variable {FT : List Fn} {h : Hs} {Q : PV → Hs → Prop} {n d f : Nat} {t : List Pl} {w : List Nat} {seen : List D} {p : Nat}
theorem misV_at {i : Nat} {x : D} (hi : i < seen.length) (pre : ∀ j, j < i → misAt t w seen p j = none) (e : misAt t w seen p i = some x) : misV t w seen p = x := by
  unfold misV
  rw [find_at hi pre e]
  rfl
theorem misV_non (pre : ∀ j, j < seen.length → misAt t w seen p j = none) : misV t w seen p = .non := by
  unfold misV
  rw [List.findSome?_eq_none_iff.mpr fun j hj => pre j (List.mem_range.mp hj)]
  rfl
def lmisB (en si : Nat) : List S := [.fr (.nm 4) (.rng1 (.blt .len [(.var 2)])) [.asg (.nm 5) (.call en [(.var 0), (.var 3), (.slc false true (.var 1) (.cst .non) (.var 4))]), .ife (.cmp .isN (.var 5) (.cst .non)) [.ret (.tup [(.var 4), (.cst (.str (Str.ofString "door")))])] [], .ife (.cmp .ne (.call si [(.var 0), (.var 5)]) (.idx (.var 2) (.var 4))) [.ret (.tup [(.var 4), (.cst (.str (Str.ofString "sight")))])] []], .ret (.cst .non)]
theorem lmis_e {en si go : Nat} (is : Is FT f 4 6 (lmisB en si)) (ien : Is FT en 3 5 (ledB go)) (igo : Is FT go 3 4 goalB) (isi : Is FT si 2 5 sightB) (ok : TownOk t) (hp : p < t.length) (hw : w.length ≤ 900) (s : SeOk (w.length + 1) seen) : cal FT (d + 3) f [.d (townD t), .d (walkD w), .d (.tup seen), .d (.int (p : Nat))] h = some (.d (misV t w seen p), h) := by
  refine eq_of_wp (is.call rfl ?_)
  unfold lmisB
  have hz : sizeLine = 2 ^ 24 := rfl
  have sl := s.len
  let E : Option PV → Option PV → Env := fun e4 e5 => [some (.d (townD t)), some (.d (walkD w)), some (.d (.tup seen)), some (.d (.int (p : Nat))), e4, e5]
  refine w_cut (fun e hh => hh = h ∧ (∀ j, j < seen.length → misAt t w seen p j = none) ∧ ∃ e4 e5, e = E e4 e5) ?_ ?_
  · simp only [Pe.Pw.ws, List.set_cons_zero, List.set_cons_succ, List.length_cons, List.length_nil, List.map_cons, List.map_nil, List.cons_append, List.nil_append, List.replicate_succ, List.replicate_zero, Nat.reduceSub, Nat.reduceAdd, Nat.reduceLT, true_and, and_true, if_true, Bool.false_eq_true, if_false, true_implies, false_implies, forall_const, decide_eq_true_eq, decide_eq_false_iff_not, Bool.not_eq_true', Bool.not_eq_false', reduceCtorEq]
    refine ⟨by omega, ?_⟩
    rw [show ((seen.length : Int) - 0).toNat = seen.length by omega]
    refine w_forN (fun i e hh => hh = h ∧ (∀ j, j < i → misAt t w seen p j = none) ∧ ∃ e4 e5, e = E e4 e5) ⟨rfl, fun j hj => absurd hj (Nat.not_lt_zero _), _, _, rfl⟩ (fun i e hh hi q => ?_) fun e hh q => q
    obtain ⟨rfl, pre, e4, e5, rfl⟩ := q
    refine w_nm.mpr ⟨(by decide : 4 < 6), ?_⟩
    rw [Int.zero_add, conv_d]
    have e1 := led_e (h := hh) (d := d) (t := t) (k := p) (w := w.take i) ien (fun h k g p e => goal_e (d := d) igo e) ok hp
    have tk : (w.map fun d => D.int (d : Nat)).take i = (w.take i).map fun d => D.int (d : Nat) := (List.map_take ..).symm
    have es : L2.atI seen (i : Int) = some seen[i] := at_get hi
    have gd : seen.getD i .non = seen[i] := by rw [List.getD_eq_getElem?_getD, List.getElem?_eq_getElem hi]; rfl
    have so := (s.sm _ (List.getElem_mem hi)).1
    simp only [Pe.Pw.ws, List.set_cons_zero, List.set_cons_succ, List.length_cons, List.length_nil, List.map_cons, List.map_nil, List.cons_append, List.nil_append, List.replicate_succ, List.replicate_zero, Nat.reduceSub, Nat.reduceAdd, Nat.reduceLT, true_and, and_true, if_true, Bool.false_eq_true, if_false, true_implies, false_implies, forall_const, decide_eq_true_eq, decide_eq_false_iff_not, Bool.not_eq_true', Bool.not_eq_false', reduceCtorEq, E]
    rw [cut_hi, tk]
    simp only [Pe.Pw.ws, List.set_cons_zero, List.set_cons_succ, List.length_cons, List.length_nil, List.map_cons, List.map_nil, List.cons_append, List.nil_append, List.replicate_succ, List.replicate_zero, Nat.reduceSub, Nat.reduceAdd, Nat.reduceLT, true_and, and_true, if_true, Bool.false_eq_true, if_false, true_implies, false_implies, forall_const, decide_eq_true_eq, decide_eq_false_iff_not, Bool.not_eq_true', Bool.not_eq_false', reduceCtorEq, w_iff e1]
    cases q : endP t p (w.take i) with
    | none =>
      have m := misV_at (t := t) (w := w) (p := p) hi pre (by unfold misAt; rw [q])
      rw [m]
      simp only [Pe.Pw.ws, List.set_cons_zero, List.set_cons_succ, List.length_cons, List.length_nil, List.map_cons, List.map_nil, List.cons_append, List.nil_append, List.replicate_succ, List.replicate_zero, Nat.reduceSub, Nat.reduceAdd, Nat.reduceLT, true_and, and_true, if_true, Bool.false_eq_true, if_false, true_implies, false_implies, forall_const, decide_eq_true_eq, decide_eq_false_iff_not, Bool.not_eq_true', Bool.not_eq_false', reduceCtorEq, oN, isNon, mkTup_2]
      rw [take_self]
      exact ⟨sz, rfl⟩
    | some g =>
      have hg := endP_lt ok _ _ _ hp q
      have e2 := sight_e (h := hh) (d := d + 1) (t := t) (k := g) isi ok (List.getElem?_eq_getElem hg)
      rw [← sgt_at hg] at e2
      simp only [Pe.Pw.ws, List.set_cons_zero, List.set_cons_succ, List.length_cons, List.length_nil, List.map_cons, List.map_nil, List.cons_append, List.nil_append, List.replicate_succ, List.replicate_zero, Nat.reduceSub, Nat.reduceAdd, Nat.reduceLT, true_and, and_true, if_true, Bool.false_eq_true, if_false, true_implies, false_implies, forall_const, decide_eq_true_eq, decide_eq_false_iff_not, Bool.not_eq_true', Bool.not_eq_false', reduceCtorEq, oN, isNon, w_iff e2, w_ixT es, w_neD (k := 3) (by decide) (sgt_ok (k := 1) ok hg).1 so, mkTup_2]
      cases c : PyData.eqv (sgt t g).py seen[i].py with
      | true =>
        refine ⟨(fun z => by cases z), fun _ => ⟨fun j hj => ?_, _, _, rfl⟩⟩
        by_cases ji : j < i
        · exact pre j ji
        · obtain rfl : j = i := by omega
          unfold misAt
          rw [q]
          dsimp only
          rw [gd, c]
          rfl
      | false =>
        have m := misV_at (t := t) (w := w) (p := p) hi pre (by unfold misAt; rw [q]; dsimp only; rw [gd, c]; rfl)
        rw [m]
        refine ⟨fun _ => ⟨sz, ?_⟩, fun z => by cases z⟩
        simp only [Pe.Pw.ws, List.set_cons_zero, List.set_cons_succ, List.length_cons, List.length_nil, List.map_cons, List.map_nil, List.cons_append, List.nil_append, List.replicate_succ, List.replicate_zero, Nat.reduceSub, Nat.reduceAdd, Nat.reduceLT, true_and, and_true, if_true, Bool.false_eq_true, if_false, true_implies, false_implies, forall_const, decide_eq_true_eq, decide_eq_false_iff_not, Bool.not_eq_true', Bool.not_eq_false', reduceCtorEq]
        rw [take_self]
  rintro _ h ⟨rfl, pre, e4, e5, rfl⟩
  rw [misV_non pre]
  simp only [Pe.Pw.ws, List.set_cons_zero, List.set_cons_succ, List.length_cons, List.length_nil, List.map_cons, List.map_nil, List.cons_append, List.nil_append, List.replicate_succ, List.replicate_zero, Nat.reduceSub, Nat.reduceAdd, Nat.reduceLT, true_and, and_true, if_true, Bool.false_eq_true, if_false, true_implies, false_implies, forall_const, decide_eq_true_eq, decide_eq_false_iff_not, Bool.not_eq_true', Bool.not_eq_false', reduceCtorEq, E, take_self]
def misB (st si : Nat) : List S := [.asg (.nm 4) (.var 3), .fr (.tup [(.nm 5), (.nm 6)]) (.enum (.var 2)) [.ife (.cmp .gt (.var 5) (.cst (.int 0))) [.asg (.nm 4) (.call st [(.var 0), (.var 4), (.idx (.var 1) (.bin .sub (.var 5) (.cst (.int 1))))]), .ife (.cmp .isN (.var 4) (.cst .non)) [.ret (.tup [(.var 5), (.cst (.str (Str.ofString "door")))])] []] [], .ife (.cmp .ne (.call si [(.var 0), (.var 4)]) (.var 6)) [.ret (.tup [(.var 5), (.cst (.str (Str.ofString "sight")))])] []], .ret (.cst .non)]
theorem mis_e {st si : Nat} (is : Is FT f 4 7 (misB st si)) (ist : Is FT st 3 4 stepB) (isi : Is FT si 2 5 sightB) (ok : TownOk t) (hp : p < t.length) (hw : w.length ≤ 900) (s : SeOk (w.length + 1) seen) : cal FT (d + 2) f [.d (townD t), .d (walkD w), .d (.tup seen), .d (.int (p : Nat))] h = some (.d (misV t w seen p), h) := by
  refine eq_of_wp (is.call rfl ?_)
  unfold misB
  have hz : sizeLine = 2 ^ 24 := rfl
  have sl := s.len
  let E : Option PV → Option PV → Option PV → Env := fun e4 e5 e6 => [some (.d (townD t)), some (.d (walkD w)), some (.d (.tup seen)), some (.d (.int (p : Nat))), e4, e5, e6]
  refine w_cut (fun e hh => hh = h ∧ e = E (some (.d (.int (p : Nat)))) none none) ?_ ?_
  · simp only [Pe.Pw.ws, List.set_cons_zero, List.set_cons_succ, List.length_cons, List.length_nil, List.map_cons, List.map_nil, List.cons_append, List.nil_append, List.replicate_succ, List.replicate_zero, Nat.reduceSub, Nat.reduceAdd, Nat.reduceLT, true_and, and_true, if_true, Bool.false_eq_true, if_false, true_implies, false_implies, forall_const, decide_eq_true_eq, decide_eq_false_iff_not, Bool.not_eq_true', Bool.not_eq_false', reduceCtorEq]
    exact rfl
  rintro _ h ⟨rfl, rfl⟩
  refine w_cut (fun e hh => hh = h ∧ (∀ j, j < seen.length → misAt t w seen p j = none) ∧ ∃ e4 e5 e6, e = E e4 e5 e6) ?_ ?_
  · simp only [Pe.Pw.ws, List.set_cons_zero, List.set_cons_succ, List.length_cons, List.length_nil, List.map_cons, List.map_nil, List.cons_append, List.nil_append, List.replicate_succ, List.replicate_zero, Nat.reduceSub, Nat.reduceAdd, Nat.reduceLT, true_and, and_true, if_true, Bool.false_eq_true, if_false, true_implies, false_implies, forall_const, decide_eq_true_eq, decide_eq_false_iff_not, Bool.not_eq_true', Bool.not_eq_false', reduceCtorEq, E]
    refine w_for _ (fun i e hh => hh = h ∧ (∀ j, j < i → misAt t w seen p j = none) ∧ ∃ (now : Nat) (e5 e6 : Option PV), now < t.length ∧ endP t p (w.take (i - 1)) = some now ∧ e = E (some (.d (.int (now : Nat)))) e5 e6) ⟨rfl, fun j hj => absurd hj (Nat.not_lt_zero _), p, _, _, hp, rfl, rfl⟩ (fun _ _ _ _ _ => its_enum) (fun i e hh x ex q => ?_) fun e hh q => ?_
    rotate_left
    · obtain ⟨rfl, pre, now, e5, e6, _, _, rfl⟩ := q
      rw [List.length_mapIdx, List.length_map] at pre
      exact ⟨rfl, pre, _, _, _, rfl⟩
    obtain ⟨rfl, pre, now, e5, e6, hn, en, rfl⟩ := q
    have hi := (List.getElem?_eq_some_iff.mp ex).1
    rw [List.length_mapIdx, List.length_map] at hi
    rw [List.getElem?_mapIdx, List.getElem?_map, List.getElem?_eq_getElem hi] at ex
    cases ex
    have gd : seen.getD i .non = seen[i] := by rw [List.getD_eq_getElem?_getD, List.getElem?_eq_getElem hi]; rfl
    have so := (s.sm _ (List.getElem_mem hi)).1
    have fin : ∀ g : Nat, endP t p (w.take i) = some g → ∀ hh2 : Hs, hh2 = hh → Wp (evSs (cal FT (d + 1)) hh.length [.ife (.cmp .ne (.call si [(.var 0), (.var 4)]) (.var 6)) [.ret (.tup [(.var 5), (.cst (.str (Str.ofString "sight")))])] []] (E (some (.d (.int (g : Nat)))) (some (.d (.int (i : Nat)))) (some (.d seen[i])))) hh2 (FStep (fun e hh2 => hh2 = hh ∧ (∀ j, j < i + 1 → misAt t w seen p j = none) ∧ ∃ (now : Nat) (e5 e6 : Option PV), now < t.length ∧ endP t p (w.take (i + 1 - 1)) = some now ∧ e = E (some (.d (.int (now : Nat)))) e5 e6) (Mid (fun e hh2 => hh2 = hh ∧ (∀ j, j < seen.length → misAt t w seen p j = none) ∧ ∃ e4 e5 e6, e = E e4 e5 e6) (Lv hh.length fun x h' => x = .d (misV t w seen p) ∧ h' = hh))) := fun g q hh2 eh => by
      subst eh
      have hg := endP_lt ok _ _ _ hp q
      have e2 := sight_e (h := hh2) (d := d) (t := t) (k := g) isi ok (List.getElem?_eq_getElem hg)
      rw [← sgt_at hg] at e2
      simp only [Pe.Pw.ws, List.set_cons_zero, List.set_cons_succ, List.length_cons, List.length_nil, List.map_cons, List.map_nil, List.cons_append, List.nil_append, List.replicate_succ, List.replicate_zero, Nat.reduceSub, Nat.reduceAdd, Nat.reduceLT, true_and, and_true, if_true, Bool.false_eq_true, if_false, true_implies, false_implies, forall_const, decide_eq_true_eq, decide_eq_false_iff_not, Bool.not_eq_true', Bool.not_eq_false', reduceCtorEq, E, w_iff e2, w_neD (k := 3) (by decide) (sgt_ok (k := 1) ok hg).1 so, mkTup_2]
      cases c : PyData.eqv (sgt t g).py seen[i].py with
      | true =>
        refine ⟨(fun z => by cases z), fun _ => ⟨fun j hj => ?_, g, _, _, hg, by rw [Nat.add_sub_cancel]; exact q, rfl⟩⟩
        by_cases ji : j < i
        · exact pre j ji
        · obtain rfl : j = i := by omega
          unfold misAt
          rw [q]
          dsimp only
          rw [gd, c]
          rfl
      | false =>
        have m := misV_at (t := t) (w := w) (p := p) hi pre (by unfold misAt; rw [q]; dsimp only; rw [gd, c]; rfl)
        rw [m]
        refine ⟨fun _ => ⟨sz, ?_⟩, fun z => by cases z⟩
        simp only [Pe.Pw.ws, List.set_cons_zero, List.set_cons_succ, List.length_cons, List.length_nil, List.map_cons, List.map_nil, List.cons_append, List.nil_append, List.replicate_succ, List.replicate_zero, Nat.reduceSub, Nat.reduceAdd, Nat.reduceLT, true_and, and_true, if_true, Bool.false_eq_true, if_false, true_implies, false_implies, forall_const, decide_eq_true_eq, decide_eq_false_iff_not, Bool.not_eq_true', Bool.not_eq_false', reduceCtorEq]
        rw [take_self]
    refine (w_iff (show bindT (T.tup [.nm 5, .nm 6]) (mkTup [.d (.int (i : Nat)), .d seen[i]]) (E (some (.d (.int (now : Nat)))) e5 e6) hh = some (E (some (.d (.int (now : Nat)))) (some (.d (.int (i : Nat)))) (some (.d seen[i])), hh) from rfl)).mpr ?_
    by_cases i0 : i = 0
    · subst i0
      refine w_cut (fun e hh2 => hh2 = hh ∧ e = E (some (.d (.int (now : Nat)))) (some (.d (.int (0 : Nat)))) (some (.d seen[0]))) ?_ ?_
      · simp only [Pe.Pw.ws, List.set_cons_zero, List.set_cons_succ, List.length_cons, List.length_nil, List.map_cons, List.map_nil, List.cons_append, List.nil_append, List.replicate_succ, List.replicate_zero, Nat.reduceSub, Nat.reduceAdd, Nat.reduceLT, true_and, and_true, if_true, Bool.false_eq_true, if_false, true_implies, false_implies, forall_const, decide_eq_true_eq, decide_eq_false_iff_not, Bool.not_eq_true', Bool.not_eq_false', reduceCtorEq, E]
        exact ⟨fun z => absurd z (by decide), fun _ => trivial⟩
      rintro _ hh2 ⟨eh, rfl⟩
      exact fin now en hh2 eh
    · have wi : i - 1 < w.length := by omega
      have ei : ((i : Int) - 1) = ((i - 1 : Nat) : Int) := by omega
      have ea : L2.atI (w.map fun d => D.int (d : Nat)) ((i : Int) - 1) = some (.int (w[i - 1] : Nat)) := by rw [ei, atI_nat, List.getElem?_map, List.getElem?_eq_getElem wi]; rfl
      have tq : w.take i = w.take (i - 1) ++ [w[i - 1]] := by
        have : w.take (i - 1 + 1) = w.take (i - 1) ++ [w[i - 1]] := by rw [List.take_add_one, List.getElem?_eq_getElem wi]; rfl
        rwa [show i - 1 + 1 = i by omega] at this
      have en2 : endP t p (w.take i) = stepP t[now] w[i - 1] := by
        rw [tq, endP_snoc _ _ _ en, endP_one (List.getElem?_eq_getElem hn)]
      have e1 := step_e (h := hh) (d := d) (t := t) (k := now) (g := w[i - 1]) ist (List.getElem?_eq_getElem hn)
      cases q : stepP t[now] w[i - 1] with
      | none =>
        have m := misV_at (t := t) (w := w) (p := p) hi pre (by unfold misAt; rw [en2, q])
        rw [m]
        rw [q] at e1
        refine w_cut (fun _ _ => False) ?_ (fun _ _ z => z.elim)
        simp only [Pe.Pw.ws, List.set_cons_zero, List.set_cons_succ, List.length_cons, List.length_nil, List.map_cons, List.map_nil, List.cons_append, List.nil_append, List.replicate_succ, List.replicate_zero, Nat.reduceSub, Nat.reduceAdd, Nat.reduceLT, true_and, and_true, if_true, Bool.false_eq_true, if_false, true_implies, false_implies, forall_const, decide_eq_true_eq, decide_eq_false_iff_not, Bool.not_eq_true', Bool.not_eq_false', reduceCtorEq, E, w_ixT ea, w_iff e1, oN, isNon, mkTup_2]
        refine ⟨fun _ => ⟨sz, ?_⟩, fun z => absurd (show (0 : Int) < (i : Int) by omega) z⟩
        rw [take_self]
      | some g =>
        rw [q] at e1
        refine w_cut (fun e hh2 => hh2 = hh ∧ e = E (some (.d (.int (g : Nat)))) (some (.d (.int (i : Nat)))) (some (.d seen[i]))) ?_ ?_
        · simp only [Pe.Pw.ws, List.set_cons_zero, List.set_cons_succ, List.length_cons, List.length_nil, List.map_cons, List.map_nil, List.cons_append, List.nil_append, List.replicate_succ, List.replicate_zero, Nat.reduceSub, Nat.reduceAdd, Nat.reduceLT, true_and, and_true, if_true, Bool.false_eq_true, if_false, true_implies, false_implies, forall_const, decide_eq_true_eq, decide_eq_false_iff_not, Bool.not_eq_true', Bool.not_eq_false', reduceCtorEq, E, w_ixT ea, w_iff e1, oN, isNon]
          exact ⟨fun _ => trivial, fun z => absurd (show (0 : Int) < (i : Int) by omega) z⟩
        rintro _ hh2 ⟨eh, rfl⟩
        exact fin g (by rw [en2, q]) hh2 eh
  rintro _ h ⟨rfl, pre, e4, e5, e6, rfl⟩
  rw [misV_non pre]
  simp only [Pe.Pw.ws, List.set_cons_zero, List.set_cons_succ, List.length_cons, List.length_nil, List.map_cons, List.map_nil, List.cons_append, List.nil_append, List.replicate_succ, List.replicate_zero, Nat.reduceSub, Nat.reduceAdd, Nat.reduceLT, true_and, and_true, if_true, Bool.false_eq_true, if_false, true_implies, false_implies, forall_const, decide_eq_true_eq, decide_eq_false_iff_not, Bool.not_eq_true', Bool.not_eq_false', reduceCtorEq, E, take_self]
end
end Pe.Pw
/-! Pe: where the walker stands, step by step; changed sights; lifted towns. -/
namespace Pe.Pw
open PySem
section
variable {t : List Pl} {w : List Nat} {seen : List D} {p k : Nat}
def FitTo (t : List Pl) (w : List Nat) (seen : List D) (k p : Nat) : Prop := ∀ j, j ≤ k → ∃ g, endP t p (w.take j) = some g ∧ seen[j]? = some (sgt t g)
theorem SeOk.take (s : SeOk (w.length + 1) seen) (hk : k ≤ w.length) : SeOk ((w.take k).length + 1) (seen.take (k + 1)) :=
  ⟨by rw [List.length_take, List.length_take, s.len]; omega, fun x hx => s.sm x (List.mem_of_mem_take hx)⟩
theorem fitTo_iff (ok : TownOk t) (hp : p < t.length) (hw : w.length ≤ 900) (s : SeOk (w.length + 1) seen) (hk : k ≤ w.length) : fitB t (w.take k) (seen.take (k + 1)) p = true ↔ FitTo t w seen k p := by
  have tl : (w.take k).length = k := by rw [List.length_take]; omega
  rw [fit_iff ok hp (by omega) (s.take hk), tl]
  unfold FitTo
  constructor
  · intro h j hj
    obtain ⟨g, e1, e2⟩ := h j hj
    rw [List.take_take, Nat.min_eq_left hj] at e1
    rw [List.getElem?_take_of_lt (by omega)] at e2
    exact ⟨g, e1, e2⟩
  · intro h j hj
    obtain ⟨g, e1, e2⟩ := h j hj
    exact ⟨g, by rw [List.take_take, Nat.min_eq_left hj]; exact e1, by rw [List.getElem?_take_of_lt (by omega)]; exact e2⟩
theorem mem_fitL (ok : TownOk t) (hw : w.length ≤ 900) (s : SeOk (w.length + 1) seen) (hk : k ≤ w.length) : p ∈ fitL t (w.take k) (seen.take (k + 1)) ↔ p < t.length ∧ FitTo t w seen k p := by
  unfold fitL
  rw [List.mem_filter, List.mem_range]
  constructor
  · exact fun ⟨h1, h2⟩ => ⟨h1, (fitTo_iff ok h1 hw s hk).mp h2⟩
  · exact fun ⟨h1, h2⟩ => ⟨h1, (fitTo_iff ok h1 hw s hk).mpr h2⟩
theorem mem_standL (ok : TownOk t) (hw : w.length ≤ 900) (s : SeOk (w.length + 1) seen) (hk : k ≤ w.length) {x : Int} : x ∈ standL t (w.take k) (seen.take (k + 1)) ↔ ∃ p g : Nat, p < t.length ∧ FitTo t w seen k p ∧ endP t p (w.take k) = some g ∧ x = (g : Nat) := by
  unfold standL
  rw [List.mem_map]
  constructor
  · rintro ⟨p, hp, rfl⟩
    obtain ⟨h1, h2⟩ := (mem_fitL ok hw s hk).mp hp
    obtain ⟨g, e, _⟩ := h2 k (Nat.le_refl _)
    exact ⟨p, g, h1, h2, e, by rw [e]; rfl⟩
  · rintro ⟨p, g, h1, h2, e, rfl⟩
    exact ⟨p, (mem_fitL ok hw s hk).mpr ⟨h1, h2⟩, by rw [e]; rfl⟩
theorem nsD_nn {is : List Int} (h : ∀ i ∈ is, 0 ≤ i) : is.map D.int = nsD (is.map Int.toNat) := by
  unfold nsD
  rw [List.map_map]
  exact List.map_congr_left fun i hi => by
    show D.int i = D.int (i.toNat : Int)
    rw [Int.toNat_of_nonneg (h i hi)]
theorem stand_next (ok : TownOk t) (hw : w.length ≤ 900) (s : SeOk (w.length + 1) seen) (hk : k < w.length) : setI (nextL t ((setI (standL t (w.take k) (seen.take (k + 1)))).map Int.toNat) (w.getD k 0) (seen.getD (k + 1) .non)) = setI (standL t (w.take (k + 1)) (seen.take (k + 1 + 1))) := by
  have hs : k + 1 < seen.length := by rw [s.len]; omega
  have wd : w.getD k 0 = w[k] := by rw [List.getD_eq_getElem?_getD, List.getElem?_eq_getElem hk]; rfl
  have sd : seen.getD (k + 1) .non = seen[k + 1] := by rw [List.getD_eq_getElem?_getD, List.getElem?_eq_getElem hs]; rfl
  have nb2 := (s.sm _ (List.getElem_mem hs)).2
  have tq : w.take (k + 1) = w.take k ++ [w[k]] := by rw [List.take_add_one, List.getElem?_eq_getElem hk]; rfl
  rw [wd, sd]
  refine lt_uniq (Pe.setI_sorted _) (Pe.setI_sorted _) fun x => ?_
  rw [Pe.mem_setI, Pe.mem_setI, mem_standL ok hw s (by omega)]
  unfold nextL
  rw [List.mem_filterMap]
  have stp : ∀ p g0 : Nat, p < t.length → endP t p (w.take k) = some g0 → endP t p (w.take (k + 1)) = stepP (t.getD g0 (default, [])) w[k] := fun p g0 hp e => by
    have hg := endP_lt ok _ _ _ hp e
    rw [tq, endP_snoc _ _ _ e, endP_one (getD_pl (ps := []) hg)]
  constructor
  · rintro ⟨q, hq, e⟩
    obtain ⟨y, hy, rfl⟩ := List.mem_map.mp hq
    rw [Pe.mem_setI] at hy
    obtain ⟨p, g0, hp, ft, e0, rfl⟩ := (mem_standL ok hw s (by omega)).mp hy
    rw [Int.toNat_natCast] at e
    unfold nextO at e
    rw [← stp p g0 hp e0] at e
    cases q2 : endP t p (w.take (k + 1)) with
    | none => rw [q2] at e; cases e
    | some g =>
      rw [q2] at e
      dsimp only at e
      split at e
      · rename_i c
        cases e
        have hg := endP_lt ok _ _ _ hp q2
        have es := (eqv_nb _ _ (sgt_ok (k := 1) ok hg).2 nb2).mp c
        refine ⟨p, g, hp, fun j hj => ?_, q2, rfl⟩
        by_cases jk : j ≤ k
        · exact ft j jk
        · obtain rfl : j = k + 1 := by omega
          exact ⟨g, q2, by rw [List.getElem?_eq_getElem hs, es]⟩
      · cases e
  · rintro ⟨p, g, hp, ft, e, rfl⟩
    obtain ⟨g0, e0, _⟩ := ft k (by omega)
    refine ⟨g0, List.mem_map.mpr ⟨(g0 : Int), ?_, Int.toNat_natCast g0⟩, ?_⟩
    · rw [Pe.mem_setI]
      exact (mem_standL ok hw s (by omega)).mpr ⟨p, g0, hp, fun j hj => ft j (by omega), e0, rfl⟩
    · obtain ⟨g', e', es⟩ := ft (k + 1) (Nat.le_refl _)
      rw [e] at e'
      cases e'
      have hg := endP_lt ok _ _ _ hp e
      unfold nextO
      rw [← stp p g0 hp e0, e]
      dsimp only
      rw [List.getElem?_eq_getElem hs] at es
      rw [if_pos ((eqv_nb _ _ (sgt_ok (k := 1) ok hg).2 nb2).mpr (Option.some.inj es).symm)]
theorem stand_first (s : SeOk (w.length + 1) seen) : nsD (fitL t [] (seen.take 1)) = (setI (standL t (w.take 0) (seen.take 1))).map D.int := by
  have e1 : standL t (w.take 0) (seen.take 1) = (fitL t [] (seen.take 1)).map fun p : Nat => (p : Int) := by
    unfold standL
    rw [List.take_zero]
    exact List.map_congr_left fun p _ => rfl
  have sorted : ((fitL t [] (seen.take 1)).map fun p : Nat => (p : Int)).Pairwise (· < ·) := by
    rw [List.pairwise_map]
    refine List.Pairwise.imp (R := (· < ·)) (fun h => by omega) ?_
    unfold fitL
    exact List.Pairwise.filter _ List.pairwise_lt_range
  have e2 : setI ((fitL t [] (seen.take 1)).map fun p : Nat => (p : Int)) = (fitL t [] (seen.take 1)).map fun p : Nat => (p : Int) := lt_uniq (Pe.setI_sorted _) sorted fun x => Pe.mem_setI _
  rw [e1, e2]
  unfold nsD
  rw [List.map_map]
  rfl
theorem stand_nn : ∀ x ∈ setI (standL t w seen), 0 ≤ x := fun x hx => by
  rw [Pe.mem_setI] at hx
  obtain ⟨p, _, rfl⟩ := List.mem_map.mp hx
  omega
theorem stand_lt (ok : TownOk t) (hw : w.length ≤ 900) (s : SeOk (w.length + 1) seen) : ∀ x ∈ setI (standL t w seen), x < (t.length : Nat) := fun x hx => by
  rw [Pe.mem_setI] at hx
  obtain ⟨p, hp, rfl⟩ := List.mem_map.mp hx
  obtain ⟨g, e⟩ := fitL_end ok hw s hp
  have := endP_lt ok _ _ _ (fitL_lt hp) e
  rw [e]
  show (g : Int) < _
  omega
end
section
variable {FT : List Fn} {h : Hs} {Q : PV → Hs → Prop} {n d f : Nat} {t : List Pl} {w : List Nat} {seen : List D} {p : Nat}
/-- two lists in cells that hold the same -/
theorem sameRR_w (is : Is FT f 2 3 (sameB f)) {k c c2 : Nat} {xs : List D} (hx : xs.length ≤ 1000000) (sm : ∀ x ∈ xs, Sm k x) (hc : h[c]? = some (.lst (xs.map .d))) (hc2 : h[c2]? = some (.lst (xs.map .d))) (hk : k < d) : cal FT (d + 1) f [.ref c, .ref c2] h = some (.d (.bl true), h) := by
  refine eq_of_wp (is.call rfl ?_)
  unfold sameB
  have hz : sizeLine = 2 ^ 24 := rfl
  simp only [Pe.Pw.ws, List.set_cons_zero, List.set_cons_succ, List.length_cons, List.length_nil, List.map_cons, List.map_nil, List.cons_append, List.nil_append, List.replicate_succ, List.replicate_zero, Nat.reduceSub, Nat.reduceAdd, Nat.reduceLT, true_and, and_true, if_true, Bool.false_eq_true, if_false, true_implies, false_implies, forall_const, decide_eq_true_eq, decide_eq_false_iff_not, Bool.not_eq_true', Bool.not_eq_false', reduceCtorEq, tyIs, List.any_cons, List.any_nil, Bool.or_false, Bool.or_true, beq_self_eq_true, Bool.not_true, w_lenR hc, w_lenR hc2, List.length_map]
  refine ⟨fun z => absurd rfl z, fun _ => ⟨by omega, ?_⟩⟩
  rw [show ((xs.length : Int) - 0).toNat = xs.length by omega]
  refine w_clN (fun i acc hh => hh = h ∧ acc = (List.replicate i true).map fun b => .d (.bl b)) ⟨rfl, rfl⟩ (fun i acc hh hi p => ?_) fun acc hh p => ?_
  · obtain ⟨rfl, rfl⟩ := p
    have ea : L2.atI (xs.map PV.d) (0 + (i : Int)) = some (.d xs[i]) := by
      rw [Int.zero_add, atI_map, atI_nat, List.getElem?_eq_getElem hi]
      rfl
    simp only [Pe.Pw.ws, List.set_cons_zero, List.set_cons_succ, List.length_cons, List.length_nil, List.map_cons, List.map_nil, List.cons_append, List.nil_append, List.replicate_succ, List.replicate_zero, Nat.reduceSub, Nat.reduceAdd, Nat.reduceLT, true_and, and_true, if_true, Bool.false_eq_true, if_false, true_implies, false_implies, forall_const, decide_eq_true_eq, decide_eq_false_iff_not, Bool.not_eq_true', Bool.not_eq_false', reduceCtorEq, w_ixR hc ea, w_ixR hc2 ea]
    refine same_w is k _ _ _ _ (sm _ (List.getElem_mem hi)) hk ?_
    refine ⟨⟨rfl, ?_⟩, by rw [List.length_map, List.length_replicate]; omega⟩
    rw [List.map_replicate]
    exact List.replicate_succ'.symm.trans List.replicate_succ
  · obtain ⟨rfl, rfl⟩ := p
    simp only [Pe.Pw.ws, List.set_cons_zero, List.set_cons_succ, List.length_cons, List.length_nil, List.map_cons, List.map_nil, List.cons_append, List.nil_append, List.replicate_succ, List.replicate_zero, Nat.reduceSub, Nat.reduceAdd, Nat.reduceLT, true_and, and_true, if_true, Bool.false_eq_true, if_false, true_implies, false_implies, forall_const, decide_eq_true_eq, decide_eq_false_iff_not, Bool.not_eq_true', Bool.not_eq_false', reduceCtorEq, w_ninB, take_self]
    rw [show (List.replicate xs.length true).all id = true by simp]
def changedB (tk pu si : Nat) : List S := [.asg (.nm 3) (.call tk [(.var 0), (.blt .len [(.var 2)])]), .asg (.tup [(.nm 5), (.nm 6)]) (.idx (.var 2) (.var 3)), .asg (.nm 4) (.call tk [(.var 0), (.cst (.int 4))]), .ife (.cmp .eq (.var 4) (.cst (.int 0))) [.ret (.call pu [(.var 2), (.var 3), (.call si [(.var 1), (.call tk [(.var 0), (.blt .len [(.var 1)])])])])] [], .ife (.cmp .eq (.var 4) (.cst (.int 1))) [.ret (.call pu [(.var 2), (.var 3), (.tup [(.bin .add (.var 5) (.cst (.str (Str.ofString "z")))), (.var 6)])])] [], .ife (.cmp .eq (.var 4) (.cst (.int 2))) [.ret (.call pu [(.var 2), (.var 3), (.tup [(.var 5), (.bin .add (.var 6) (.tup [(.call tk [(.var 0), (.cst (.int 2))])]))])])] [], .ret (.var 2)]
theorem changed_w {tk pu si : Nat} {gs : List Nat} (is : Is FT f 3 7 (changedB tk pu si)) (it : Is FT tk 2 2 takeB) (ipu : Is FT pu 3 3 putB) (isi : Is FT si 2 5 sightB) (ok : TownOk t) (t0 : 0 < t.length) (gl : gs.length ≤ 900) (g0 : 0 < gs.length) (hg : ∀ g ∈ gs, g < t.length) (a : Dr n h)
    (q : ∀ (ss : List D) h1, SeOk gs.length ss → Dn n h h1 → Q (.d (.tup ss)) h1) : Wp (cal FT (d + 2) f [.ref n, .d (townD t), .d (.tup (gs.map (sgt t)))]) h Q := by
  refine is.call rfl ?_
  unfold changedB
  have hz : sizeLine = 2 ^ 24 := rfl
  let ss := gs.map (sgt t)
  have sl : ss.length = gs.length := List.length_map ..
  have sok : ∀ s ∈ ss, Sm 3 s ∧ nbD s = true := fun s hs => by
    obtain ⟨g, hg2, rfl⟩ := List.mem_map.mp hs
    exact sgt_ok (k := 1) ok (hg g hg2)
  have putok : ∀ (j : Nat) (x : D), j < ss.length → Sm 3 x ∧ nbD x = true → SeOk gs.length (ss.take j ++ [x] ++ ss.drop (j + 1)) := fun j x hj hx => ⟨by simp only [List.length_append, List.length_take, List.length_drop, List.length_singleton]; omega, fun s hs => by
    rcases List.mem_append.mp hs with hs | hs
    · rcases List.mem_append.mp hs with hs | hs
      · exact sok s (List.mem_of_mem_take hs)
      · rw [List.mem_singleton.mp hs]; exact hx
    · exact sok s (List.mem_of_mem_drop hs)⟩
  let E : Option PV → Option PV → Option PV → Option PV → Env := fun e3 e4 e5 e6 => [some (.ref n), some (.d (townD t)), some (.d (.tup ss)), e3, e4, e5, e6]
  refine w_cut (fun e hh => ∃ j : Nat, j < ss.length ∧ Dn n h hh ∧ e = E (some (.d (.int (j : Nat)))) none none none) ?_ ?_
  · simp only [Pe.Pw.ws, List.set_cons_zero, List.set_cons_succ, List.length_cons, List.length_nil, List.map_cons, List.map_nil, List.cons_append, List.nil_append, List.replicate_succ, List.replicate_zero, Nat.reduceSub, Nat.reduceAdd, Nat.reduceLT, true_and, and_true, if_true, Bool.false_eq_true, if_false, true_implies, false_implies, forall_const, decide_eq_true_eq, decide_eq_false_iff_not, Bool.not_eq_true', Bool.not_eq_false', reduceCtorEq, List.length_map]
    refine take_w it (by omega) a fun r g r0 r1 b => ?_
    obtain ⟨j, rfl⟩ := Int.eq_ofNat_of_zero_le r0
    simp only [Pe.Pw.ws, List.set_cons_zero, List.set_cons_succ, List.length_cons, List.length_nil, List.map_cons, List.map_nil, List.cons_append, List.nil_append, List.replicate_succ, List.replicate_zero, Nat.reduceSub, Nat.reduceAdd, Nat.reduceLT, true_and, and_true, if_true, Bool.false_eq_true, if_false, true_implies, false_implies, forall_const, decide_eq_true_eq, decide_eq_false_iff_not, Bool.not_eq_true', Bool.not_eq_false', reduceCtorEq]
    exact ⟨j, by omega, b, rfl⟩
  rintro _ X ⟨j, hj, b, rfl⟩
  have gj : gs[j]'(by omega) < t.length := hg _ (List.getElem_mem _)
  have ej : L2.atI ss (j : Int) = some (.tup [.str (t[gs[j]'(by omega)]).1, .tup ((t[gs[j]'(by omega)]).2.map fun g => .int (if g.isSome = true then 1 else 0))]) := by
    rw [at_get hj]
    show some (gs.map (sgt t))[j] = _
    rw [List.getElem_map, sgt_at gj]
    rfl
  have mk := (ok.mark _ (List.getElem_mem gj))
  have dl := ok.doors _ (List.getElem_mem gj)
  generalize t[gs[j]'(by omega)] = pl at *
  refine w_cut (fun e hh => hh = X ∧ e = E (some (.d (.int (j : Nat)))) none (some (.d (.str pl.1))) (some (.d (.tup (pl.2.map fun g => .int (if g.isSome = true then 1 else 0)))))) ?_ ?_
  · simp only [Pe.Pw.ws, List.set_cons_zero, List.set_cons_succ, List.length_cons, List.length_nil, List.map_cons, List.map_nil, List.cons_append, List.nil_append, List.replicate_succ, List.replicate_zero, Nat.reduceSub, Nat.reduceAdd, Nat.reduceLT, true_and, and_true, if_true, Bool.false_eq_true, if_false, true_implies, false_implies, forall_const, decide_eq_true_eq, decide_eq_false_iff_not, Bool.not_eq_true', Bool.not_eq_false', reduceCtorEq, E, w_ixT ej]
  rintro _ X ⟨rfl, rfl⟩
  refine w_cut (fun e hh => ∃ r : Int, Dn n h hh ∧ e = E (some (.d (.int (j : Nat)))) (some (.d (.int r))) (some (.d (.str pl.1))) (some (.d (.tup (pl.2.map fun g => .int (if g.isSome = true then 1 else 0)))))) ?_ ?_
  · simp only [Pe.Pw.ws, List.set_cons_zero, List.set_cons_succ, List.length_cons, List.length_nil, List.map_cons, List.map_nil, List.cons_append, List.nil_append, List.replicate_succ, List.replicate_zero, Nat.reduceSub, Nat.reduceAdd, Nat.reduceLT, true_and, and_true, if_true, Bool.false_eq_true, if_false, true_implies, false_implies, forall_const, decide_eq_true_eq, decide_eq_false_iff_not, Bool.not_eq_true', Bool.not_eq_false', reduceCtorEq, E]
    refine take_w it (by decide) (b.dr a) fun r g r0 r1 b1 => ?_
    simp only [Pe.Pw.ws, List.set_cons_zero, List.set_cons_succ, List.length_cons, List.length_nil, List.map_cons, List.map_nil, List.cons_append, List.nil_append, List.replicate_succ, List.replicate_zero, Nat.reduceSub, Nat.reduceAdd, Nat.reduceLT, true_and, and_true, if_true, Bool.false_eq_true, if_false, true_implies, false_implies, forall_const, decide_eq_true_eq, decide_eq_false_iff_not, Bool.not_eq_true', Bool.not_eq_false', reduceCtorEq]
    exact ⟨r, b.trans b1, rfl⟩
  clear b X
  rintro _ X ⟨r, b, rfl⟩
  have doorsOk : ∀ bs : List D, (∀ x ∈ bs, ∃ i : Int, x = .int i) → bs.length ≤ 200 → ∀ mk : Str, PyData.strOk mk = true → Sm 3 (.tup [.str mk, .tup bs]) ∧ nbD (.tup [.str mk, .tup bs]) = true := fun bs hb bl mk mo => by
    refine ⟨⟨(sz : 2 ≤ sizeLine), fun x hx => ?_⟩, ?_⟩
    · simp only [List.mem_cons, List.not_mem_nil, or_false] at hx
      rcases hx with rfl | rfl
      · exact mo
      · refine ⟨sz (by omega), fun y hy => ?_⟩
        obtain ⟨i, rfl⟩ := hb y hy
        exact True.intro
    · show nbsD [.str mk, .tup bs] = true
      rw [nbs_iff]
      intro x hx
      simp only [List.mem_cons, List.not_mem_nil, or_false] at hx
      rcases hx with rfl | rfl
      · rfl
      · rw [nbD, nbs_iff]
        intro y hy
        obtain ⟨i, rfl⟩ := hb y hy
        rfl
  have bits : ∀ x ∈ pl.2.map (fun g => D.int (if g.isSome = true then 1 else 0)), ∃ i : Int, x = .int i := fun x hx => by
    obtain ⟨g, _, rfl⟩ := List.mem_map.mp hx
    exact ⟨_, rfl⟩
  have bl : (pl.2.map (fun g => D.int (if g.isSome = true then 1 else 0))).length ≤ 100 := by rw [List.length_map]; exact dl
  refine w_cut (fun e hh => Dn n h hh ∧ ∃ e3 e4 e5 e6, e = E e3 e4 e5 e6 ∧ e3 = some (.d (.int (j : Nat))) ∧ e4 = some (.d (.int r)) ∧ e5 = some (.d (.str pl.1)) ∧ e6 = some (.d (.tup (pl.2.map fun g => .int (if g.isSome = true then 1 else 0))))) ?_ ?_
  · simp only [Pe.Pw.ws, List.set_cons_zero, List.set_cons_succ, List.length_cons, List.length_nil, List.map_cons, List.map_nil, List.cons_append, List.nil_append, List.replicate_succ, List.replicate_zero, Nat.reduceSub, Nat.reduceAdd, Nat.reduceLT, true_and, and_true, if_true, Bool.false_eq_true, if_false, true_implies, false_implies, forall_const, decide_eq_true_eq, decide_eq_false_iff_not, Bool.not_eq_true', Bool.not_eq_false', reduceCtorEq, E]
    refine ⟨fun _ => ?_, fun _ => ⟨b, _, _, _, _, rfl, rfl, rfl, rfl, rfl⟩⟩
    simp only [Pe.Pw.ws, List.set_cons_zero, List.set_cons_succ, List.length_cons, List.length_nil, List.map_cons, List.map_nil, List.cons_append, List.nil_append, List.replicate_succ, List.replicate_zero, Nat.reduceSub, Nat.reduceAdd, Nat.reduceLT, true_and, and_true, if_true, Bool.false_eq_true, if_false, true_implies, false_implies, forall_const, decide_eq_true_eq, decide_eq_false_iff_not, Bool.not_eq_true', Bool.not_eq_false', reduceCtorEq, List.length_map]
    refine take_w it (by omega) (b.dr a) fun r2 g r0 r1 b1 => ?_
    obtain ⟨r2, rfl⟩ := Int.eq_ofNat_of_zero_le r0
    have hr : r2 < t.length := by omega
    have b2 := b.trans b1
    have e2 := sight_e (h := g) (d := d) (t := t) (k := r2) isi ok (List.getElem?_eq_getElem hr)
    rw [← sgt_at hr] at e2
    simp only [Pe.Pw.ws, List.set_cons_zero, List.set_cons_succ, List.length_cons, List.length_nil, List.map_cons, List.map_nil, List.cons_append, List.nil_append, List.replicate_succ, List.replicate_zero, Nat.reduceSub, Nat.reduceAdd, Nat.reduceLT, true_and, and_true, if_true, Bool.false_eq_true, if_false, true_implies, false_implies, forall_const, decide_eq_true_eq, decide_eq_false_iff_not, Bool.not_eq_true', Bool.not_eq_false', reduceCtorEq, w_iff e2, w_iff (put_e (h := g) (d := d) (k := j) (x := sgt t r2) (xs := ss) ipu (by omega))]
    rw [b2.take0]
    exact q _ g (putok j _ hj (sgt_ok (k := 1) ok hr)) b2
  clear b X
  rintro _ X ⟨b, e3, e4, e5, e6, rfl, rfl, rfl, rfl, rfl⟩
  refine w_cut (fun e hh => Dn n h hh ∧ ∃ e3 e4 e5 e6, e = E e3 e4 e5 e6 ∧ e3 = some (.d (.int (j : Nat))) ∧ e4 = some (.d (.int r)) ∧ e5 = some (.d (.str pl.1)) ∧ e6 = some (.d (.tup (pl.2.map fun g => .int (if g.isSome = true then 1 else 0))))) ?_ ?_
  · simp only [Pe.Pw.ws, List.set_cons_zero, List.set_cons_succ, List.length_cons, List.length_nil, List.map_cons, List.map_nil, List.cons_append, List.nil_append, List.replicate_succ, List.replicate_zero, Nat.reduceSub, Nat.reduceAdd, Nat.reduceLT, true_and, and_true, if_true, Bool.false_eq_true, if_false, true_implies, false_implies, forall_const, decide_eq_true_eq, decide_eq_false_iff_not, Bool.not_eq_true', Bool.not_eq_false', reduceCtorEq, E]
    refine ⟨fun _ => ?_, fun _ => ⟨b, _, _, _, _, rfl, rfl, rfl, rfl, rfl⟩⟩
    have ez : (Str.ofString "z").length = 1 := by decide +kernel
    have so : PyData.strOk (pl.1 ++ Str.ofString "z") = true := by
      have a1 : pl.1.cps.all (· < 0x110000) = true := mk.1
      have a2 : (Str.ofString "z").cps.all (· < 0x110000) = true := by decide +kernel
      show (pl.1.cps ++ (Str.ofString "z").cps).all (· < 0x110000) = true
      rw [Array.all_append, a1, a2]
      rfl
    simp only [Pe.Pw.ws, List.set_cons_zero, List.set_cons_succ, List.length_cons, List.length_nil, List.map_cons, List.map_nil, List.cons_append, List.nil_append, List.replicate_succ, List.replicate_zero, Nat.reduceSub, Nat.reduceAdd, Nat.reduceLT, true_and, and_true, if_true, Bool.false_eq_true, if_false, true_implies, false_implies, forall_const, decide_eq_true_eq, decide_eq_false_iff_not, Bool.not_eq_true', Bool.not_eq_false', reduceCtorEq, mkTup_2, ez, w_iff (put_e (h := X) (d := d) (k := j) (x := .tup [.str (pl.1 ++ Str.ofString "z"), .tup (pl.2.map fun g => .int (if g.isSome = true then 1 else 0))]) (xs := ss) ipu (by omega))]
    rw [b.take0]
    exact ⟨by have := mk.2; omega, sz, q _ X (putok j _ hj (doorsOk _ bits (by omega) _ so)) b⟩
  clear b X
  rintro _ X ⟨b, e3, e4, e5, e6, rfl, rfl, rfl, rfl, rfl⟩
  refine w_cut (fun e hh => Dn n h hh ∧ ∃ e3 e4 e5 e6, e = E e3 e4 e5 e6) ?_ ?_
  · simp only [Pe.Pw.ws, List.set_cons_zero, List.set_cons_succ, List.length_cons, List.length_nil, List.map_cons, List.map_nil, List.cons_append, List.nil_append, List.replicate_succ, List.replicate_zero, Nat.reduceSub, Nat.reduceAdd, Nat.reduceLT, true_and, and_true, if_true, Bool.false_eq_true, if_false, true_implies, false_implies, forall_const, decide_eq_true_eq, decide_eq_false_iff_not, Bool.not_eq_true', Bool.not_eq_false', reduceCtorEq, E]
    refine ⟨fun _ => ?_, fun _ => ⟨b, _, _, _, _, rfl⟩⟩
    refine take_w it (by decide) (b.dr a) fun r2 g r0 r1 b1 => ?_
    have b2 := b.trans b1
    simp only [Pe.Pw.ws, List.set_cons_zero, List.set_cons_succ, List.length_cons, List.length_nil, List.map_cons, List.map_nil, List.cons_append, List.nil_append, List.replicate_succ, List.replicate_zero, Nat.reduceSub, Nat.reduceAdd, Nat.reduceLT, true_and, and_true, if_true, Bool.false_eq_true, if_false, true_implies, false_implies, forall_const, decide_eq_true_eq, decide_eq_false_iff_not, Bool.not_eq_true', Bool.not_eq_false', reduceCtorEq, mkTup_2, mkTup_1, w_iff (put_e (h := g) (d := d) (k := j) (x := .tup [.str pl.1, .tup (pl.2.map (fun g => .int (if g.isSome = true then 1 else 0)) ++ [.int r2])]) (xs := ss) ipu (by omega))]
    rw [b2.take0]
    refine ⟨sz, by omega, sz, q _ g (putok j _ hj (doorsOk _ (fun x hx => ?_) (by rw [List.length_append, List.length_singleton]; omega) _ mk.1)) b2⟩
    rcases List.mem_append.mp hx with hx | hx
    · exact bits x hx
    · exact ⟨r2, List.mem_singleton.mp hx⟩
  clear b X
  rintro _ X ⟨b, e3, e4, e5, e6, rfl⟩
  simp only [Pe.Pw.ws, List.set_cons_zero, List.set_cons_succ, List.length_cons, List.length_nil, List.map_cons, List.map_nil, List.cons_append, List.nil_append, List.replicate_succ, List.replicate_zero, Nat.reduceSub, Nat.reduceAdd, Nat.reduceLT, true_and, and_true, if_true, Bool.false_eq_true, if_false, true_implies, false_implies, forall_const, decide_eq_true_eq, decide_eq_false_iff_not, Bool.not_eq_true', Bool.not_eq_false', reduceCtorEq, E]
  rw [b.take0]
  exact q ss X ⟨sl, sok⟩ b
end
end Pe.Pw
/-! Pe: lifted towns. -/
namespace Pe.Pw
open PySem
section
variable {FT : List Fn} {h : Hs} {Q : PV → Hs → Prop} {n d f : Nat} {t : List Pl}
def liftedB (tk : Nat) : List S := [.asg (.nm 3) (.lst []), .fr (.tup [(.nm 4), (.nm 5)]) (.seq (.var 1)) [.fr (.nm 6) (.rng1 (.var 2)) [.asg (.nm 7) (.lst []), .fr (.nm 8) (.seq (.var 5)) [.ife (.cmp .isN (.var 8) (.cst .non)) [.ex (.mth .append (.var 7) [(.cst .non)])] [.ex (.mth .append (.var 7) [(.bin .add (.bin .mul (.var 8) (.var 2)) (.call tk [(.var 0), (.var 2)]))])]], .ex (.mth .append (.var 3) [(.tup [(.var 4), (.blt .tuple [(.var 7)])])])]], .ret (.blt .tuple [(.var 3)])]
theorem lifted_w {tk wide folds : Nat} (is : Is FT f 3 9 (liftedB tk)) (it : Is FT tk 2 2 takeB) (hl : t.length ≤ 40) (hw : wide ≤ 100) (hf : 0 < folds) (hf2 : folds ≤ 10) (ok : ∀ p ∈ t, PlOk t.length wide p) (a : Dr n h)
    (q : ∀ (t' : List Pl) g, t'.length = t.length * folds → (∀ p ∈ t', PlOk (t.length * folds) wide p) → Dn n h g → Q (.d (townD t')) g) : Wp (cal FT (d + 2) f [.ref n, .d (townD t), .d (.int (folds : Nat))]) h Q := by
  refine is.call rfl ?_
  unfold liftedB
  have hz : sizeLine = 2 ^ 24 := rfl
  have hn := a.lt
  let E : Option PV → Option PV → Option PV → Option PV → Option PV → Env := fun e4 e5 e6 e7 e8 => [some (.ref n), some (.d (townD t)), some (.d (.int (folds : Nat))), some (.ref h.length), e4, e5, e6, e7, e8]
  have bound : ∀ i, i ≤ t.length → i * folds ≤ 400 := fun i hi => Nat.le_trans (Nat.mul_le_mul (Nat.le_trans hi hl) hf2) (by decide)
  let St : Nat → Hs → Prop := fun k hh => ∃ (X gs : Hs) (pls : List Pl), Dn n h X ∧ pls.length = k ∧ (∀ p ∈ pls, PlOk (t.length * folds) wide p) ∧ hh = X ++ Cell.lst ((pls.map plD).map .d) :: gs
  refine w_cut (fun e hh => St 0 hh ∧ e = E none none none none none) ?_ ?_
  · simp only [Pe.Pw.ws, List.set_cons_zero, List.set_cons_succ, List.length_cons, List.length_nil, List.map_cons, List.map_nil, List.cons_append, List.nil_append, List.replicate_succ, List.replicate_zero, Nat.reduceSub, Nat.reduceAdd, Nat.reduceLT, true_and, and_true, if_true, Bool.false_eq_true, if_false, true_implies, false_implies, forall_const, decide_eq_true_eq, decide_eq_false_iff_not, Bool.not_eq_true', Bool.not_eq_false', reduceCtorEq]
    exact ⟨sz, ⟨h, [], [], Dn.refl a, rfl, fun p hp => absurd hp List.not_mem_nil, rfl⟩, rfl⟩
  rintro _ hh ⟨st, rfl⟩
  refine w_cut (fun e hh => St (t.length * folds) hh ∧ ∃ e4 e5 e6 e7 e8, e = E e4 e5 e6 e7 e8) ?_ ?_
  · simp only [Pe.Pw.ws, List.set_cons_zero, List.set_cons_succ, List.length_cons, List.length_nil, List.map_cons, List.map_nil, List.cons_append, List.nil_append, List.replicate_succ, List.replicate_zero, Nat.reduceSub, Nat.reduceAdd, Nat.reduceLT, true_and, and_true, if_true, Bool.false_eq_true, if_false, true_implies, false_implies, forall_const, decide_eq_true_eq, decide_eq_false_iff_not, Bool.not_eq_true', Bool.not_eq_false', reduceCtorEq, E]
    refine w_forT t plD (fun i e hh => St (i * folds) hh ∧ ∃ e4 e5 e6 e7 e8, e = E e4 e5 e6 e7 e8) ⟨by rw [Nat.zero_mul]; exact st, _, _, _, _, _, rfl⟩ (fun i e hh p ex r => ?_) fun e hh r => r
    clear st
    obtain ⟨st, e4, e5, e6, e7, e8, rfl⟩ := r
    have hi := (List.getElem?_eq_some_iff.mp ex).1
    have pm := ok p (List.mem_of_getElem? ex)
    refine (w_iff (show bindT (T.tup [.nm 4, .nm 5]) (.d (plD p)) (E e4 e5 e6 e7 e8) hh = some (E (some (.d (.str p.1))) (some (.d (doorsD p.2))) e6 e7 e8, hh) from rfl)).mpr ?_
    simp only [Pe.Pw.ws, List.set_cons_zero, List.set_cons_succ, List.length_cons, List.length_nil, List.map_cons, List.map_nil, List.cons_append, List.nil_append, List.replicate_succ, List.replicate_zero, Nat.reduceSub, Nat.reduceAdd, Nat.reduceLT, true_and, and_true, if_true, Bool.false_eq_true, if_false, true_implies, false_implies, forall_const, decide_eq_true_eq, decide_eq_false_iff_not, Bool.not_eq_true', Bool.not_eq_false', reduceCtorEq, E]
    refine ⟨by omega, ?_⟩
    rw [show ((folds : Int) - 0).toNat = folds by omega]
    refine w_forN (fun j e hh => St (i * folds + j) hh ∧ ∃ e6 e7 e8, e = E (some (.d (.str p.1))) (some (.d (doorsD p.2))) e6 e7 e8) ⟨st, _, _, _, rfl⟩ (fun j e hh hj r => ?_) fun e hh r => ?_
    · clear st
      obtain ⟨⟨X, gs, pls, b, pl, po, rfl⟩, e6, e7, e8, rfl⟩ := r
      refine w_nm.mpr ⟨(by decide : 6 < 9), ?_⟩
      rw [Int.zero_add, conv_d]
      have xl := b.len
      refine w_cut (fun e hh => ∃ (X gs : Hs) (c : Nat), X.length = h.length ∧ Dn n h X ∧ c = h.length + 1 + gs.length ∧ hh = X ++ Cell.lst ((pls.map plD).map .d) :: (gs ++ [Cell.lst ((([] : List (Option Nat)).map oN).map .d)]) ∧ e = E (some (.d (.str p.1))) (some (.d (doorsD p.2))) (some (.d (.int (j : Nat)))) (some (.ref c)) e8) ?_ ?_
      · simp only [Pe.Pw.ws, List.set_cons_zero, List.set_cons_succ, List.length_cons, List.length_nil, List.map_cons, List.map_nil, List.cons_append, List.nil_append, List.replicate_succ, List.replicate_zero, Nat.reduceSub, Nat.reduceAdd, Nat.reduceLT, true_and, and_true, if_true, Bool.false_eq_true, if_false, true_implies, false_implies, forall_const, decide_eq_true_eq, decide_eq_false_iff_not, Bool.not_eq_true', Bool.not_eq_false', reduceCtorEq, E]
        refine ⟨sz, X, gs, _, xl, b, rfl, ?_, ?_⟩
        · rw [List.append_assoc]
          rfl
        · rw [List.length_append, List.length_cons, xl, show h.length + (gs.length + 1) = h.length + 1 + gs.length by omega]
      clear b xl X gs
      rintro _ _ ⟨X, gs, c, xl, b, rfl, rfl, rfl⟩
      have cc : ∀ (X : Hs) (ds : List (Option Nat)), X.length = h.length → (X ++ Cell.lst ((pls.map plD).map .d) :: (gs ++ [Cell.lst ((ds.map oN).map .d)]))[h.length + 1 + gs.length]? = some (.lst ((ds.map oN).map .d)) := fun X ds e => by
        rw [List.getElem?_append_right (by omega), show h.length + 1 + gs.length - X.length = gs.length + 1 by omega, List.getElem?_cons_succ]
        exact List.getElem?_concat_length ..
      have cs : ∀ (X : Hs) (ds : List (Option Nat)) (y : Cell), X.length = h.length → (X ++ Cell.lst ((pls.map plD).map .d) :: (gs ++ [Cell.lst ((ds.map oN).map .d)])).set (h.length + 1 + gs.length) y = X ++ Cell.lst ((pls.map plD).map .d) :: (gs ++ [y]) := fun X ds y e => by
        rw [List.set_append_right _ _ (by omega), show h.length + 1 + gs.length - X.length = gs.length + 1 by omega, List.set_cons_succ, List.set_append_right _ _ (Nat.le_refl _), Nat.sub_self]
        rfl
      have dl : p.2.length ≤ 100 := Nat.le_trans pm.doors hw
      refine w_cut (fun e hh => ∃ (X : Hs) (ds : List (Option Nat)) (e8 : Option PV), Dn n h X ∧ ds.length = p.2.length ∧ (∀ g, some g ∈ ds → g < t.length * folds) ∧ hh = X ++ Cell.lst ((pls.map plD).map .d) :: (gs ++ [Cell.lst ((ds.map oN).map .d)]) ∧ e = E (some (.d (.str p.1))) (some (.d (doorsD p.2))) (some (.d (.int (j : Nat)))) (some (.ref (h.length + 1 + gs.length))) e8) ?_ ?_
      · simp only [Pe.Pw.ws, List.set_cons_zero, List.set_cons_succ, List.length_cons, List.length_nil, List.map_cons, List.map_nil, List.cons_append, List.nil_append, List.replicate_succ, List.replicate_zero, Nat.reduceSub, Nat.reduceAdd, Nat.reduceLT, true_and, and_true, if_true, Bool.false_eq_true, if_false, true_implies, false_implies, forall_const, decide_eq_true_eq, decide_eq_false_iff_not, Bool.not_eq_true', Bool.not_eq_false', reduceCtorEq, E]
        refine w_forT p.2 oN (fun k e hh => ∃ (X : Hs) (ds : List (Option Nat)) (e8 : Option PV), Dn n h X ∧ ds.length = k ∧ (∀ g, some g ∈ ds → g < t.length * folds) ∧ hh = X ++ Cell.lst ((pls.map plD).map .d) :: (gs ++ [Cell.lst ((ds.map oN).map .d)]) ∧ e = E (some (.d (.str p.1))) (some (.d (doorsD p.2))) (some (.d (.int (j : Nat)))) (some (.ref (h.length + 1 + gs.length))) e8) ⟨X, [], _, b, rfl, fun g hg => absurd hg List.not_mem_nil, rfl, rfl⟩ (fun k e hh g eg r => ?_) fun e hh r => r
        clear b xl X
        obtain ⟨X, ds, e8, b, rfl, dok, rfl, rfl⟩ := r
        have hk := (List.getElem?_eq_some_iff.mp eg).1
        have xl := b.len
        cases g with
        | none =>
          simp only [Pe.Pw.ws, List.set_cons_zero, List.set_cons_succ, List.length_cons, List.length_nil, List.map_cons, List.map_nil, List.cons_append, List.nil_append, List.replicate_succ, List.replicate_zero, Nat.reduceSub, Nat.reduceAdd, Nat.reduceLT, true_and, and_true, if_true, Bool.false_eq_true, if_false, true_implies, false_implies, forall_const, decide_eq_true_eq, decide_eq_false_iff_not, Bool.not_eq_true', Bool.not_eq_false', reduceCtorEq, E, oN, isNon]
          rw [w_app (cc X ds xl) (show ((ds.map oN).map PV.d).length < sizeLine by rw [List.length_map, List.length_map]; omega), cs X ds _ xl]
          refine ⟨X, ds ++ [none], _, b, by simp, fun g hg => ?_, by simp [oN], rfl⟩
          rcases List.mem_append.mp hg with hg | hg
          · exact dok g hg
          · cases List.mem_singleton.mp hg
        | some g =>
          have hg := pm.goals g (List.mem_of_getElem? eg)
          simp only [Pe.Pw.ws, List.set_cons_zero, List.set_cons_succ, List.length_cons, List.length_nil, List.map_cons, List.map_nil, List.cons_append, List.nil_append, List.replicate_succ, List.replicate_zero, Nat.reduceSub, Nat.reduceAdd, Nat.reduceLT, true_and, and_true, if_true, Bool.false_eq_true, if_false, true_implies, false_implies, forall_const, decide_eq_true_eq, decide_eq_false_iff_not, Bool.not_eq_true', Bool.not_eq_false', reduceCtorEq, E, oN, isNon]
          refine ⟨mulOk_r (by omega), ?_⟩
          refine take_w it (by omega) (b.dr a).app fun r g2 r0 r1 b1 => ?_
          obtain ⟨X2, rfl, c2⟩ := b1.split (by omega)
          obtain ⟨r, rfl⟩ := Int.eq_ofNat_of_zero_le r0
          have b2 := b.trans c2
          have x2 := b2.len
          simp only [Pe.Pw.ws, List.set_cons_zero, List.set_cons_succ, List.length_cons, List.length_nil, List.map_cons, List.map_nil, List.cons_append, List.nil_append, List.replicate_succ, List.replicate_zero, Nat.reduceSub, Nat.reduceAdd, Nat.reduceLT, true_and, and_true, if_true, Bool.false_eq_true, if_false, true_implies, false_implies, forall_const, decide_eq_true_eq, decide_eq_false_iff_not, Bool.not_eq_true', Bool.not_eq_false', reduceCtorEq]
          rw [show (g : Int) * (folds : Nat) + (r : Nat) = ((g * folds + r : Nat) : Int) by simp, w_app (cc X2 ds x2) (show ((ds.map oN).map PV.d).length < sizeLine by rw [List.length_map, List.length_map]; omega), cs X2 ds _ x2]
          have lt : g * folds + r < t.length * folds := by
            have := Nat.mul_le_mul_right folds (Nat.succ_le_of_lt hg)
            rw [Nat.succ_mul] at this
            omega
          refine ⟨X2, ds ++ [some (g * folds + r)], _, b2, by simp, fun g' hg' => ?_, by simp [oN], rfl⟩
          rcases List.mem_append.mp hg' with hg' | hg'
          · exact dok g' hg'
          · cases List.mem_singleton.mp hg'
            exact lt
      clear b xl X
      rintro _ _ ⟨X, ds, e8, b, dl2, dok, rfl, rfl⟩
      have xl := b.len
      have tc : (X ++ Cell.lst ((pls.map plD).map PV.d) :: (gs ++ [Cell.lst ((ds.map oN).map .d)]))[h.length]? = some (.lst ((pls.map plD).map .d)) := by rw [← xl]; exact gA0
      have bd := bound (i + 1) hi
      rw [Nat.succ_mul] at bd
      simp only [Pe.Pw.ws, List.set_cons_zero, List.set_cons_succ, List.length_cons, List.length_nil, List.map_cons, List.map_nil, List.cons_append, List.nil_append, List.replicate_succ, List.replicate_zero, Nat.reduceSub, Nat.reduceAdd, Nat.reduceLT, true_and, and_true, if_true, Bool.false_eq_true, if_false, true_implies, false_implies, forall_const, decide_eq_true_eq, decide_eq_false_iff_not, Bool.not_eq_true', Bool.not_eq_false', reduceCtorEq, E, w_tupR (cc X ds xl), mkTup_ds, mkTup_2]
      refine ⟨sz, ?_⟩
      rw [w_app tc (show ((pls.map plD).map PV.d).length < sizeLine by rw [List.length_map, List.length_map]; omega), ← xl, sA0]
      refine ⟨⟨X, gs ++ [Cell.lst ((ds.map oN).map .d)], pls ++ [(p.1, ds)], b, by simp [pl]; omega, fun p' hp => ?_, by simp⟩, _, _, _, by rw [xl]⟩
      rcases List.mem_append.mp hp with hp | hp
      · exact po p' hp
      · rw [List.mem_singleton.mp hp]
        exact ⟨by show ds.length ≤ wide; have := pm.doors; omega, dok, pm.mark⟩
    · obtain ⟨st, e6, e7, e8, rfl⟩ := r
      have st2 : St ((i + 1) * folds) hh := by rw [Nat.succ_mul]; exact st
      simp only [Pe.Pw.ws, List.set_cons_zero, List.set_cons_succ, List.length_cons, List.length_nil, List.map_cons, List.map_nil, List.cons_append, List.nil_append, List.replicate_succ, List.replicate_zero, Nat.reduceSub, Nat.reduceAdd, Nat.reduceLT, true_and, and_true, if_true, Bool.false_eq_true, if_false, true_implies, false_implies, forall_const, decide_eq_true_eq, decide_eq_false_iff_not, Bool.not_eq_true', Bool.not_eq_false', reduceCtorEq, E]
      exact ⟨st2, _, _, _, _, _, rfl⟩
  clear st hh
  rintro _ hh ⟨⟨X, gs, pls, b, pl, po, rfl⟩, e4, e5, e6, e7, e8, rfl⟩
  have tc : (X ++ Cell.lst ((pls.map plD).map PV.d) :: gs)[h.length]? = some (.lst ((pls.map plD).map .d)) := by rw [← b.len]; exact gA0
  simp only [Pe.Pw.ws, List.set_cons_zero, List.set_cons_succ, List.length_cons, List.length_nil, List.map_cons, List.map_nil, List.cons_append, List.nil_append, List.replicate_succ, List.replicate_zero, Nat.reduceSub, Nat.reduceAdd, Nat.reduceLT, true_and, and_true, if_true, Bool.false_eq_true, if_false, true_implies, false_implies, forall_const, decide_eq_true_eq, decide_eq_false_iff_not, Bool.not_eq_true', Bool.not_eq_false', reduceCtorEq, E, w_tupR tc, mkTup_ds]
  rw [b.take]
  exact q pls X pl po b
end
end Pe.Pw
section
open PySem Pe
def K02.f0 : Fn := ⟨(Str.ofString "index_set"), [(Str.ofString "places"), (Str.ofString "place")], 1, [.ret (.blt .tuple [(.blt .sorted [(.blt .list [(.dcomp [1] (.nm 1) (.seq (.var 0)) false (.cst (.bl true)) (.var 1) (.cst (.bl true)))])])])]⟩
def K02.f1 : Fn := ⟨(Str.ofString "sight_at"), [(Str.ofString "town"), (Str.ofString "place"), (Str.ofString "mark"), (Str.ofString "doors"), (Str.ofString "goal")], 2, [.asg (.tup [(.nm 2), (.nm 3)]) (.idx (.var 0) (.var 1)), .ret (.tup [(.var 2), (.blt .tuple [(.comp [4] (.nm 4) (.seq (.var 3)) false (.cst (.bl true)) (.ifx (.cmp .isN (.var 4) (.cst .non)) (.cst (.int 0)) (.cst (.int 1))))])])]⟩
def K02.f2 : Fn := ⟨(Str.ofString "step_from"), [(Str.ofString "town"), (Str.ofString "place"), (Str.ofString "door"), (Str.ofString "doors")], 3, [.asg (.nm 3) (.idx (.idx (.var 0) (.var 1)) (.cst (.int 1))), .ife (.cmp .ge (.var 2) (.blt .len [(.var 3)])) [.ret (.cst .non)] [], .ret (.idx (.var 3) (.var 2))]⟩
def K02.f3 : Fn := ⟨(Str.ofString "led_to"), [(Str.ofString "town"), (Str.ofString "place"), (Str.ofString "walk"), (Str.ofString "now"), (Str.ofString "door")], 3, [.asg (.nm 3) (.var 1), .fr (.nm 4) (.seq (.var 2)) [.asg (.nm 3) (.call 2 [(.var 0), (.var 3), (.var 4)]), .ife (.cmp .isN (.var 3) (.cst .non)) [.ret (.cst .non)] []], .ret (.var 3)]⟩
def K02.f4 : Fn := ⟨(Str.ofString "sights_along"), [(Str.ofString "town"), (Str.ofString "place"), (Str.ofString "walk"), (Str.ofString "now"), (Str.ofString "seen"), (Str.ofString "door")], 3, [.asg (.nm 3) (.var 1), .asg (.nm 4) (.lst [(.call 1 [(.var 0), (.var 3)])]), .fr (.nm 5) (.seq (.var 2)) [.asg (.nm 3) (.call 2 [(.var 0), (.var 3), (.var 5)]), .ife (.cmp .isN (.var 3) (.cst .non)) [.ret (.cst .non)] [], .ex (.mth .append (.var 4) [(.call 1 [(.var 0), (.var 3)])])], .ret (.blt .tuple [(.var 4)])]⟩
def K02.f5 : Fn := ⟨(Str.ofString "fitting_places"), [(Str.ofString "town"), (Str.ofString "walk"), (Str.ofString "seen"), (Str.ofString "place")], 3, [.ret (.blt .tuple [(.comp [3] (.nm 3) (.rng1 (.blt .len [(.var 0)])) true (.cmp .eq (.call 4 [(.var 0), (.var 3), (.var 1)]) (.var 2)) (.var 3))])]⟩
def K02.f6 : Fn := ⟨(Str.ofString "standing_places"), [(Str.ofString "town"), (Str.ofString "walk"), (Str.ofString "seen"), (Str.ofString "place")], 3, [.ret (.call 0 [(.comp [3] (.nm 3) (.seq (.call 5 [(.var 0), (.var 1), (.var 2)])) false (.cst (.bl true)) (.call 3 [(.var 0), (.var 3), (.var 1)]))])]⟩
def K02.f7 : Fn := ⟨(Str.ofString "surely_at"), [(Str.ofString "town"), (Str.ofString "walk"), (Str.ofString "seen"), (Str.ofString "places")], 3, [.asg (.nm 3) (.call 6 [(.var 0), (.var 1), (.var 2)]), .ife (.cmp .eq (.blt .len [(.var 3)]) (.cst (.int 1))) [.ret (.idx (.var 3) (.cst (.int 0)))] [], .ret (.cst .non)]⟩
def K02.f8 : Fn := ⟨(Str.ofString "standing_behind"), [(Str.ofString "town"), (Str.ofString "places"), (Str.ofString "door"), (Str.ofString "sight"), (Str.ofString "goals"), (Str.ofString "place"), (Str.ofString "goal")], 4, [.asg (.nm 4) (.comp [5] (.nm 5) (.seq (.var 1)) false (.cst (.bl true)) (.call 2 [(.var 0), (.var 5), (.var 2)])), .ret (.call 0 [(.comp [6] (.nm 6) (.seq (.var 4)) true (.an (.cmp .notN (.var 6) (.cst .non)) (.cmp .eq (.call 1 [(.var 0), (.var 6)]) (.var 3))) (.var 6))])]⟩
def K02.f9 : Fn := ⟨(Str.ofString "misfit_of"), [(Str.ofString "town"), (Str.ofString "walk"), (Str.ofString "seen"), (Str.ofString "place"), (Str.ofString "now"), (Str.ofString "time"), (Str.ofString "sight")], 4, [.asg (.nm 4) (.var 3), .fr (.tup [(.nm 5), (.nm 6)]) (.enum (.var 2)) [.ife (.cmp .gt (.var 5) (.cst (.int 0))) [.asg (.nm 4) (.call 2 [(.var 0), (.var 4), (.idx (.var 1) (.bin .sub (.var 5) (.cst (.int 1))))]), .ife (.cmp .isN (.var 4) (.cst .non)) [.ret (.tup [(.var 5), (.cst (.str (Str.ofString "door")))])] []] [], .ife (.cmp .ne (.call 1 [(.var 0), (.var 4)]) (.var 6)) [.ret (.tup [(.var 5), (.cst (.str (Str.ofString "sight")))])] []], .ret (.cst .non)]⟩
def K02.f10 : Fn := ⟨(Str.ofString "_law_draws"), [(Str.ofString "script"), (Str.ofString "many"), (Str.ofString "cells"), (Str.ofString "left"), (Str.ofString "draws"), (Str.ofString "k"), (Str.ofString "place"), (Str.ofString "cell"), (Str.ofString "mixed")], 2, [.asg (.nm 2) (.comp [7] (.nm 7) (.seq (.slc false true (.var 0) (.cst .non) (.cst (.int 63)))) false (.cst (.bl true)) (.bin .mod (.blt .int [(.var 7)]) (.bin .shl (.cst (.int 1)) (.cst (.int 7200))))), .ife (.cmp .eq (.blt .len [(.var 2)]) (.cst (.int 0))) [.ex (.mth .append (.var 2) [(.cst (.int 0))])] [], .asg (.nm 3) (.blt .list [(.var 2)]), .asg (.nm 4) (.lst []), .fr (.nm 5) (.rng1 (.var 1)) [.asg (.nm 6) (.bin .mod (.blt .int [(.var 5)]) (.blt .len [(.var 2)])), .ife (.an (.cmp .ge (.idx (.var 2) (.var 6)) (.bin .pow (.cst (.int 10)) (.cst (.int 18)))) (.cmp .gt (.idx (.var 3) (.var 6)) (.cst (.int 0)))) [.ex (.mth .append (.var 4) [(.bin .mod (.blt .int [(.idx (.var 3) (.var 6))]) (.cst (.int 1000)))]), .sub (.var 3) (.var 6) (.bin .fdiv (.idx (.var 3) (.var 6)) (.cst (.int 1000)))] [.asg (.nm 8) (.bin .mod (.blt .int [(.bin .add (.bin .add (.bin .mul (.idx (.var 2) (.var 6)) (.cst (.int 48271))) (.bin .mul (.var 5) (.cst (.int 69621)))) (.cst (.int 11)))]) (.cst (.int 2147483647))), .ex (.mth .append (.var 4) [(.bin .mod (.blt .int [(.bin .add (.bin .add (.bin .mul (.var 8) (.var 8)) (.bin .mul (.cst (.int 3)) (.var 8))) (.var 5))]) (.cst (.int 1000003)))])]], .ex (.mth .reverse (.var 4) []), .ret (.var 4)]⟩
def K02.f11 : Fn := ⟨(Str.ofString "_law_take"), [(Str.ofString "draws"), (Str.ofString "many")], 2, [.ife (.cmp .eq (.blt .len [(.var 0)]) (.cst (.int 0))) [.ret (.cst (.int 0))] [], .ret (.bin .mod (.blt .int [(.mth .pop (.var 0) [])]) (.var 1))]⟩
def K02.f12 : Fn := ⟨(Str.ofString "_law_pick"), [(Str.ofString "draws"), (Str.ofString "row")], 2, [.ret (.idx (.var 1) (.call 11 [(.var 0), (.blt .len [(.var 1)])]))]⟩
def K02.f13 : Fn := ⟨(Str.ofString "_law_same"), [(Str.ofString "actual"), (Str.ofString "due"), (Str.ofString "k")], 2, [.ife (.blt (.isi [.tuple, .list]) [(.var 1)]) [.ife (.orr (.cmp .ne (.blt (.isi [.tuple]) [(.var 0)]) (.blt (.isi [.tuple]) [(.var 1)])) (.cmp .ne (.blt (.isi [.list]) [(.var 0)]) (.blt (.isi [.list]) [(.var 1)]))) [.ret (.cst (.bl false))] [], .ife (.cmp .ne (.blt .len [(.var 0)]) (.blt .len [(.var 1)])) [.ret (.cst (.bl false))] [], .ret (.cmp .nin (.cst (.bl false)) (.comp [2] (.nm 2) (.rng1 (.blt .len [(.var 1)])) false (.cst (.bl true)) (.call 13 [(.idx (.var 0) (.var 2)), (.idx (.var 1) (.var 2))])))] [], .ife (.orr (.cmp .ne (.blt (.isi [.bool]) [(.var 0)]) (.blt (.isi [.bool]) [(.var 1)])) (.cmp .ne (.blt (.isi [.int]) [(.var 0)]) (.blt (.isi [.int]) [(.var 1)]))) [.ret (.cst (.bl false))] [], .ife (.orr (.cmp .ne (.blt (.isi [.str]) [(.var 0)]) (.blt (.isi [.str]) [(.var 1)])) (.cmp .ne (.cmp .isN (.var 0) (.cst .non)) (.cmp .isN (.var 1) (.cst .non)))) [.ret (.cst (.bl false))] [], .ret (.cmp .eq (.var 0) (.var 1))]⟩
def K02.f14 : Fn := ⟨(Str.ofString "_law_shuffled"), [(Str.ofString "draws"), (Str.ofString "row"), (Str.ofString "left"), (Str.ofString "told"), (Str.ofString "k")], 2, [.asg (.nm 2) (.blt .list [(.var 1)]), .asg (.nm 3) (.lst []), .fr (.nm 4) (.rng1 (.blt .len [(.var 2)])) [.ex (.mth .append (.var 3) [(.mth .popAt (.var 2) [(.call 11 [(.var 0), (.blt .len [(.var 2)])])])])], .ret (.var 3)]⟩
def K02.f15 : Fn := ⟨(Str.ofString "_law_words"), [(Str.ofString "draws"), (Str.ofString "many"), (Str.ofString "words"), (Str.ofString "k"), (Str.ofString "size"), (Str.ofString "word"), (Str.ofString "j"), (Str.ofString "other")], 2, [.asg (.nm 2) (.lst []), .fr (.nm 3) (.rng1 (.var 1)) [.asg (.nm 4) (.bin .add (.cst (.int 1)) (.call 11 [(.var 0), (.cst (.int 3))])), .ife (.cmp .eq (.call 11 [(.var 0), (.cst (.int 9))]) (.cst (.int 0))) [.asg (.nm 4) (.bin .add (.bin .add (.var 4) (.cst (.int 3))) (.call 11 [(.var 0), (.cst (.int 20))]))] [], .asg (.nm 5) (.join (.cst (.str (Str.ofString ""))) (.comp [6] (.nm 6) (.rng1 (.var 4)) false (.cst (.bl true)) (.idx (.cst (.str (Str.ofString "abcdefghijklmnopqrstuvwxyz"))) (.call 11 [(.var 0), (.cst (.int 26))])))), .ife (.cmp .inn (.var 5) (.var 2)) [.asg (.nm 5) (.bin .mul (.cst (.str (Str.ofString "z"))) (.bin .add (.cst (.int 1)) (.blt .max [(.bin .add (.lst [(.cst (.int 5))]) (.comp [7] (.nm 7) (.seq (.var 2)) false (.cst (.bl true)) (.blt .len [(.var 7)])))])))] [], .ex (.mth .append (.var 2) [(.var 5)])], .ret (.var 2)]⟩
def K02.f16 : Fn := ⟨(Str.ofString "_law_put"), [(Str.ofString "row"), (Str.ofString "k"), (Str.ofString "thing")], 3, [.ret (.bin .add (.bin .add (.slc false true (.var 0) (.cst .non) (.var 1)) (.tup [(.var 2)])) (.slc true false (.var 0) (.bin .add (.var 1) (.cst (.int 1))) (.cst .non)))]⟩
def K02.f17 : Fn := ⟨(Str.ofString "_law_link"), [(Str.ofString "doors"), (Str.ofString "one"), (Str.ofString "other")], 3, [.ife (.an (.cmp .lt (.blt .len [(.idx (.var 0) (.var 1))]) (.cst (.int 4))) (.cmp .lt (.blt .len [(.idx (.var 0) (.var 2))]) (.cst (.int 4)))) [.ife (.cmp .ne (.var 1) (.var 2)) [.sub (.var 0) (.var 2) (.bin .add (.idx (.var 0) (.var 2)) (.lst [(.var 1)]))] [], .sub (.var 0) (.var 1) (.bin .add (.idx (.var 0) (.var 1)) (.lst [(.var 2)]))] []]⟩
def K02.f18 : Fn := ⟨(Str.ofString "_law_two_way"), [(Str.ofString "draws"), (Str.ofString "least"), (Str.ofString "most"), (Str.ofString "joined"), (Str.ofString "many"), (Str.ofString "words"), (Str.ofString "doors"), (Str.ofString "k"), (Str.ofString "told"), (Str.ofString "row"), (Str.ofString "spot"), (Str.ofString "j")], 4, [.asg (.nm 4) (.bin .add (.var 1) (.call 11 [(.var 0), (.bin .add (.bin .sub (.var 2) (.var 1)) (.cst (.int 1)))])), .asg (.nm 5) (.call 15 [(.var 0), (.bin .add (.cst (.int 1)) (.call 11 [(.var 0), (.cst (.int 3))]))]), .asg (.nm 6) (.comp [7] (.nm 7) (.rng1 (.var 4)) false (.cst (.bl true)) (.lst [])), .ife (.cmp .eq (.var 3) (.cst (.int 1))) [.fr (.nm 7) (.rng2 (.cst (.int 1)) (.var 4)) [.ex (.callk 17 [(.var 6), (.call 12 [(.var 0), (.comp [11] (.nm 11) (.rng1 (.var 7)) true (.cmp .lt (.blt .len [(.idx (.var 6) (.var 11))]) (.cst (.int 4))) (.var 11))]), (.var 7)])]] [], .fr (.nm 7) (.rng1 (.call 11 [(.var 0), (.bin .add (.var 4) (.cst (.int 2)))])) [.ex (.callk 17 [(.var 6), (.call 11 [(.var 0), (.var 4)]), (.call 11 [(.var 0), (.var 4)])])], .asg (.nm 8) (.lst []), .fr (.nm 7) (.rng1 (.var 4)) [.asg (.nm 9) (.call 14 [(.var 0), (.idx (.var 6) (.var 7))]), .ife (.an (.cmp .lt (.blt .len [(.var 9)]) (.cst (.int 4))) (.cmp .eq (.call 11 [(.var 0), (.cst (.int 4))]) (.cst (.int 0)))) [.asg (.nm 10) (.call 11 [(.var 0), (.bin .add (.blt .len [(.var 9)]) (.cst (.int 1)))]), .asg (.nm 9) (.bin .add (.bin .add (.slc false true (.var 9) (.cst .non) (.var 10)) (.lst [(.cst .non)])) (.slc true false (.var 9) (.var 10) (.cst .non)))] [], .ex (.mth .append (.var 8) [(.tup [(.call 12 [(.var 0), (.var 5)]), (.blt .tuple [(.var 9)])])])], .ret (.blt .tuple [(.var 8)])]⟩
def K02.f19 : Fn := ⟨(Str.ofString "_law_goal"), [(Str.ofString "town"), (Str.ofString "place"), (Str.ofString "door"), (Str.ofString "doors")], 3, [.asg (.nm 3) (.idx (.idx (.var 0) (.var 1)) (.cst (.int 1))), .ife (.orr (.cmp .lt (.var 2) (.cst (.int 0))) (.cmp .ge (.var 2) (.blt .len [(.var 3)]))) [.ret (.cst .non)] [], .ret (.idx (.var 3) (.var 2))]⟩
def K02.f20 : Fn := ⟨(Str.ofString "_law_opens"), [(Str.ofString "town"), (Str.ofString "place"), (Str.ofString "k")], 2, [.ret (.comp [2] (.nm 2) (.rng1 (.blt .len [(.idx (.idx (.var 0) (.var 1)) (.cst (.int 1)))])) true (.cmp .notN (.idx (.idx (.idx (.var 0) (.var 1)) (.cst (.int 1))) (.var 2)) (.cst .non)) (.var 2))]⟩
def K02.f21 : Fn := ⟨(Str.ofString "_law_end"), [(Str.ofString "town"), (Str.ofString "place"), (Str.ofString "walk"), (Str.ofString "now"), (Str.ofString "door")], 3, [.asg (.nm 3) (.var 1), .fr (.nm 4) (.seq (.var 2)) [.asg (.nm 3) (.call 19 [(.var 0), (.var 3), (.var 4)]), .ife (.cmp .isN (.var 3) (.cst .non)) [.ret (.cst .non)] []], .ret (.var 3)]⟩
def K02.f22 : Fn := ⟨(Str.ofString "_law_walk"), [(Str.ofString "draws"), (Str.ofString "town"), (Str.ofString "place"), (Str.ofString "most"), (Str.ofString "walk"), (Str.ofString "now"), (Str.ofString "k"), (Str.ofString "doors"), (Str.ofString "door")], 4, [.asg (.nm 4) (.tup []), .asg (.nm 5) (.var 2), .fr (.nm 6) (.rng1 (.call 11 [(.var 0), (.bin .add (.var 3) (.cst (.int 1)))])) [.asg (.nm 7) (.call 20 [(.var 1), (.var 5)]), .ife (.cmp .gt (.blt .len [(.var 7)]) (.cst (.int 0))) [.asg (.nm 8) (.call 12 [(.var 0), (.var 7)]), .asg (.nm 4) (.bin .add (.var 4) (.tup [(.var 8)])), .asg (.nm 5) (.idx (.idx (.idx (.var 1) (.var 5)) (.cst (.int 1))) (.var 8))] []], .ret (.var 4)]⟩
def K02.f23 : Fn := ⟨(Str.ofString "_law_any_town"), [(Str.ofString "draws"), (Str.ofString "most"), (Str.ofString "wide"), (Str.ofString "size"), (Str.ofString "words"), (Str.ofString "full"), (Str.ofString "many"), (Str.ofString "town"), (Str.ofString "place"), (Str.ofString "doors"), (Str.ofString "door")], 3, [.asg (.nm 3) (.bin .add (.cst (.int 1)) (.call 11 [(.var 0), (.var 1)])), .asg (.nm 4) (.call 15 [(.var 0), (.bin .add (.cst (.int 1)) (.call 11 [(.var 0), (.cst (.int 3))]))]), .asg (.nm 5) (.cmp .eq (.call 11 [(.var 0), (.cst (.int 3))]) (.cst (.int 0))), .asg (.nm 6) (.bin .add (.cst (.int 1)) (.call 11 [(.var 0), (.var 2)])), .asg (.nm 7) (.lst []), .fr (.nm 8) (.rng1 (.var 3)) [.ife (.nt (.var 5)) [.asg (.nm 6) (.call 11 [(.var 0), (.bin .add (.var 2) (.cst (.int 1)))])] [], .asg (.nm 9) (.lst []), .fr (.nm 10) (.rng1 (.var 6)) [.ife (.an (.nt (.var 5)) (.cmp .eq (.call 11 [(.var 0), (.cst (.int 4))]) (.cst (.int 0)))) [.ex (.mth .append (.var 9) [(.cst .non)])] [.ex (.mth .append (.var 9) [(.call 11 [(.var 0), (.var 3)])])]], .ex (.mth .append (.var 7) [(.tup [(.call 12 [(.var 0), (.var 4)]), (.blt .tuple [(.var 9)])])])], .ret (.blt .tuple [(.var 7)])]⟩
def K02.f24 : Fn := ⟨(Str.ofString "_law_lifted"), [(Str.ofString "draws"), (Str.ofString "town"), (Str.ofString "folds"), (Str.ofString "told"), (Str.ofString "mark"), (Str.ofString "doors"), (Str.ofString "fold"), (Str.ofString "goals"), (Str.ofString "goal")], 3, [.asg (.nm 3) (.lst []), .fr (.tup [(.nm 4), (.nm 5)]) (.seq (.var 1)) [.fr (.nm 6) (.rng1 (.var 2)) [.asg (.nm 7) (.lst []), .fr (.nm 8) (.seq (.var 5)) [.ife (.cmp .isN (.var 8) (.cst .non)) [.ex (.mth .append (.var 7) [(.cst .non)])] [.ex (.mth .append (.var 7) [(.bin .add (.bin .mul (.var 8) (.var 2)) (.call 11 [(.var 0), (.var 2)]))])]], .ex (.mth .append (.var 3) [(.tup [(.var 4), (.blt .tuple [(.var 7)])])])]], .ret (.blt .tuple [(.var 3)])]⟩
def K02.f25 : Fn := ⟨(Str.ofString "_law_sight"), [(Str.ofString "town"), (Str.ofString "place"), (Str.ofString "mark"), (Str.ofString "doors"), (Str.ofString "goal")], 2, [.asg (.tup [(.nm 2), (.nm 3)]) (.idx (.var 0) (.var 1)), .ret (.tup [(.var 2), (.blt .tuple [(.comp [4] (.nm 4) (.seq (.var 3)) false (.cst (.bl true)) (.ifx (.cmp .isN (.var 4) (.cst .non)) (.cst (.int 0)) (.cst (.int 1))))])])]⟩
def K02.f26 : Fn := ⟨(Str.ofString "_law_shows"), [(Str.ofString "town"), (Str.ofString "place"), (Str.ofString "walk"), (Str.ofString "k")], 3, [.ife (.cmp .isN (.call 21 [(.var 0), (.var 1), (.var 2)]) (.cst .non)) [.ret (.cst .non)] [], .ret (.blt .tuple [(.comp [3] (.nm 3) (.rng1 (.bin .add (.blt .len [(.var 2)]) (.cst (.int 1)))) false (.cst (.bl true)) (.call 25 [(.var 0), (.call 21 [(.var 0), (.var 1), (.slc false true (.var 2) (.cst .non) (.var 3))])]))])]⟩
def K02.f27 : Fn := ⟨(Str.ofString "_law_changed"), [(Str.ofString "draws"), (Str.ofString "town"), (Str.ofString "seen"), (Str.ofString "k"), (Str.ofString "way"), (Str.ofString "mark"), (Str.ofString "doors")], 3, [.asg (.nm 3) (.call 11 [(.var 0), (.blt .len [(.var 2)])]), .asg (.tup [(.nm 5), (.nm 6)]) (.idx (.var 2) (.var 3)), .asg (.nm 4) (.call 11 [(.var 0), (.cst (.int 4))]), .ife (.cmp .eq (.var 4) (.cst (.int 0))) [.ret (.call 16 [(.var 2), (.var 3), (.call 25 [(.var 1), (.call 11 [(.var 0), (.blt .len [(.var 1)])])])])] [], .ife (.cmp .eq (.var 4) (.cst (.int 1))) [.ret (.call 16 [(.var 2), (.var 3), (.tup [(.bin .add (.var 5) (.cst (.str (Str.ofString "z")))), (.var 6)])])] [], .ife (.cmp .eq (.var 4) (.cst (.int 2))) [.ret (.call 16 [(.var 2), (.var 3), (.tup [(.var 5), (.bin .add (.var 6) (.tup [(.call 11 [(.var 0), (.cst (.int 2))])]))])])] [], .ret (.var 2)]⟩
def K02.f28 : Fn := ⟨(Str.ofString "_law_misfit"), [(Str.ofString "town"), (Str.ofString "walk"), (Str.ofString "seen"), (Str.ofString "place"), (Str.ofString "k"), (Str.ofString "now")], 4, [.fr (.nm 4) (.rng1 (.blt .len [(.var 2)])) [.asg (.nm 5) (.call 21 [(.var 0), (.var 3), (.slc false true (.var 1) (.cst .non) (.var 4))]), .ife (.cmp .isN (.var 5) (.cst .non)) [.ret (.tup [(.var 4), (.cst (.str (Str.ofString "door")))])] [], .ife (.cmp .ne (.call 25 [(.var 0), (.var 5)]) (.idx (.var 2) (.var 4))) [.ret (.tup [(.var 4), (.cst (.str (Str.ofString "sight")))])] []], .ret (.cst .non)]⟩
def K02.f29 : Fn := ⟨(Str.ofString "_law_next"), [(Str.ofString "town"), (Str.ofString "places"), (Str.ofString "door"), (Str.ofString "sight"), (Str.ofString "goals"), (Str.ofString "place"), (Str.ofString "goal")], 4, [.asg (.nm 4) (.comp [5] (.nm 5) (.seq (.var 1)) false (.cst (.bl true)) (.call 19 [(.var 0), (.var 5), (.var 2)])), .ret (.blt .tuple [(.sset (.comp [6] (.nm 6) (.seq (.var 4)) true (.an (.cmp .notN (.var 6) (.cst .non)) (.cmp .eq (.call 25 [(.var 0), (.var 6)]) (.var 3))) (.var 6)))])]⟩
def K02.f30 : Fn := ⟨(Str.ofString "_law_is_right"), [(Str.ofString "town"), (Str.ofString "walk"), (Str.ofString "seen"), (Str.ofString "misfits"), (Str.ofString "fitting"), (Str.ofString "standing"), (Str.ofString "told"), (Str.ofString "now"), (Str.ofString "k"), (Str.ofString "due"), (Str.ofString "place")], 3, [.asg (.nm 3) (.comp [10] (.nm 10) (.rng1 (.blt .len [(.var 0)])) false (.cst (.bl true)) (.call 28 [(.var 0), (.var 1), (.var 2), (.var 10)])), .asg (.nm 4) (.blt .tuple [(.comp [10] (.nm 10) (.rng1 (.blt .len [(.var 0)])) true (.cmp .isN (.idx (.var 3) (.var 10)) (.cst .non)) (.var 10))]), .asg (.nm 5) (.blt .tuple [(.sset (.comp [10] (.nm 10) (.seq (.var 4)) false (.cst (.bl true)) (.call 21 [(.var 0), (.var 10), (.var 1)])))]), .asg (.nm 6) (.comp [10] (.nm 10) (.rng1 (.blt .len [(.var 0)])) false (.cst (.bl true)) (.call 9 [(.var 0), (.var 1), (.var 2), (.var 10)])), .ife (.orr (.nt (.call 13 [(.var 6), (.var 3)])) (.nt (.call 13 [(.call 5 [(.var 0), (.var 1), (.var 2)]), (.var 4)]))) [.ret (.cst (.bl false))] [], .ife (.nt (.call 13 [(.call 6 [(.var 0), (.var 1), (.var 2)]), (.var 5)])) [.ret (.cst (.bl false))] [], .ife (.nt (.call 13 [(.call 7 [(.var 0), (.var 1), (.var 2)]), (.ifx (.cmp .eq (.blt .len [(.var 5)]) (.cst (.int 1))) (.idx (.var 5) (.cst (.int 0))) (.cst .non))])) [.ret (.cst (.bl false))] [], .asg (.nm 7) (.call 5 [(.var 0), (.tup []), (.slc false true (.var 2) (.cst .non) (.cst (.int 1)))]), .fr (.nm 8) (.rng1 (.blt .len [(.var 1)])) [.asg (.nm 9) (.call 29 [(.var 0), (.var 7), (.idx (.var 1) (.var 8)), (.idx (.var 2) (.bin .add (.var 8) (.cst (.int 1))))]), .asg (.nm 7) (.call 8 [(.var 0), (.var 7), (.idx (.var 1) (.var 8)), (.idx (.var 2) (.bin .add (.var 8) (.cst (.int 1))))]), .ife (.nt (.call 13 [(.var 7), (.var 9)])) [.ret (.cst (.bl false))] []], .ret (.call 13 [(.var 7), (.var 5)])]⟩
def K02.f31 : Fn := ⟨(Str.ofString "law"), [(Str.ofString "script"), (Str.ofString "draws"), (Str.ofString "towns"), (Str.ofString "town"), (Str.ofString "k"), (Str.ofString "places"), (Str.ofString "door"), (Str.ofString "sight"), (Str.ofString "walk"), (Str.ofString "starts"), (Str.ofString "seen"), (Str.ofString "place")], 1, [.asg (.nm 1) (.call 10 [(.var 0), (.cst (.int 500))]), .asg (.nm 2) (.lst [(.call 23 [(.var 1), (.cst (.int 8)), (.cst (.int 3))]), (.call 18 [(.var 1), (.cst (.int 1)), (.cst (.int 8)), (.cst (.int 0))])]), .ex (.mth .append (.var 2) [(.call 24 [(.var 1), (.call 23 [(.var 1), (.cst (.int 4)), (.cst (.int 2))]), (.cst (.int 2))])]), .fr (.nm 3) (.seq (.var 2)) [.fr (.nm 4) (.rng1 (.cst (.int 3))) [.asg (.nm 8) (.call 22 [(.var 1), (.var 3), (.call 11 [(.var 1), (.blt .len [(.var 3)])]), (.call 12 [(.var 1), (.lst [(.cst (.int 2)), (.cst (.int 4)), (.cst (.int 10))])])]), .asg (.nm 9) (.comp [11] (.nm 11) (.rng1 (.blt .len [(.var 3)])) true (.cmp .notN (.call 21 [(.var 3), (.var 11), (.var 8)]) (.cst .non)) (.var 11)), .asg (.nm 10) (.call 27 [(.var 1), (.var 3), (.call 26 [(.var 3), (.call 12 [(.var 1), (.var 9)]), (.var 8)])]), .ife (.nt (.call 30 [(.var 3), (.var 8), (.var 10)])) [.ret (.cst (.bl false))] []], .asg (.nm 5) (.blt .tuple [(.comp [11] (.nm 11) (.rng1 (.blt .len [(.var 3)])) true (.cmp .eq (.call 11 [(.var 1), (.cst (.int 2))]) (.cst (.int 0))) (.var 11))]), .asg (.nm 6) (.call 12 [(.var 1), (.lst [(.cst (.int 0)), (.cst (.int 0)), (.cst (.int 1)), (.cst (.int 2)), (.bin .pow (.cst (.int 10)) (.cst (.int 20)))])]), .asg (.nm 7) (.call 25 [(.var 3), (.call 11 [(.var 1), (.blt .len [(.var 3)])])]), .ife (.nt (.call 13 [(.call 8 [(.var 3), (.var 5), (.var 6), (.var 7)]), (.call 29 [(.var 3), (.var 5), (.var 6), (.var 7)])])) [.ret (.cst (.bl false))] []], .ret (.cst (.bl true))]⟩
def K02.FT : List Fn := [f0, f1, f2, f3, f4, f5, f6, f7, f8, f9, f10, f11, f12, f13, f14, f15, f16, f17, f18, f19, f20, f21, f22, f23, f24, f25, f26, f27, f28, f29, f30, f31]
def K02.topS (i : Nat) : PySem.Stmt := PySem.Challenge.pw_mapwalked_k02_fitting_and_standing.main.body.getD i (.Pass ⟨0, 0, 0, 0⟩)
def K02.S : List PySem.Stmt := [1, 3, 4, 5, 6, 8, 9, 10, 11, 12, 14, 15, 16, 17, 18, 19, 20, 21, 22, 23, 24, 25, 26, 27, 28, 29, 30, 31, 32, 33, 34, 35].map K02.topS
theorem K02.ck : Pe.ckTab K02.FT K02.FT K02.S = true := by decide +kernel
end
/-! k02: fitting and standing. -/
namespace K02
open PySem Pe Pe.Pw
def iIx : Is FT 0 1 2 indexSetB := ⟨⟨_, _, rfl, rfl⟩⟩
def iSi : Is FT 1 2 5 sightB := ⟨⟨_, _, rfl, rfl⟩⟩
def iSt : Is FT 2 3 4 stepB := ⟨⟨_, _, rfl, rfl⟩⟩
def iLe : Is FT 3 3 5 (ledB 2) := ⟨⟨_, _, rfl, rfl⟩⟩
def iAl : Is FT 4 3 6 (alongB 2 1) := ⟨⟨_, _, rfl, rfl⟩⟩
def iFi : Is FT 5 3 4 (fittingPB 4) := ⟨⟨_, _, rfl, rfl⟩⟩
def iSp : Is FT 6 3 4 (standingPB 0 5 3) := ⟨⟨_, _, rfl, rfl⟩⟩
def iSu : Is FT 7 3 4 (surelyB 6) := ⟨⟨_, _, rfl, rfl⟩⟩
def iBe : Is FT 8 4 7 (behindPB 2 0 1) := ⟨⟨_, _, rfl, rfl⟩⟩
def iMi : Is FT 9 4 7 (misB 2 1) := ⟨⟨_, _, rfl, rfl⟩⟩
def iDraws : Is FT 10 2 9 drawsB := ⟨⟨_, _, rfl, rfl⟩⟩
def iTake : Is FT 11 2 2 takeB := ⟨⟨_, _, rfl, rfl⟩⟩
def iPick : Is FT 12 2 2 (pickB 11) := ⟨⟨_, _, rfl, rfl⟩⟩
def iSame : Is FT 13 2 3 (sameB 13) := ⟨⟨_, _, rfl, rfl⟩⟩
def iShuf : Is FT 14 2 5 (shufB 11) := ⟨⟨_, _, rfl, rfl⟩⟩
def iWords : Is FT 15 2 8 (wordsB 11) := ⟨⟨_, _, rfl, rfl⟩⟩
def iPut : Is FT 16 3 3 putB := ⟨⟨_, _, rfl, rfl⟩⟩
def iLink : Is FT 17 3 3 linkB := ⟨⟨_, _, rfl, rfl⟩⟩
def iTwoWay : Is FT 18 4 12 (twoWayB 11 15 17 12 14) := ⟨⟨_, _, rfl, rfl⟩⟩
def iGo : Is FT 19 3 4 goalB := ⟨⟨_, _, rfl, rfl⟩⟩
def iOpens : Is FT 20 2 3 opensB := ⟨⟨_, _, rfl, rfl⟩⟩
def iEn : Is FT 21 3 5 (ledB 19) := ⟨⟨_, _, rfl, rfl⟩⟩
def iWalk : Is FT 22 4 9 (walkB 11 12 20) := ⟨⟨_, _, rfl, rfl⟩⟩
def iAny : Is FT 23 3 11 (anyTownB 11 15 12) := ⟨⟨_, _, rfl, rfl⟩⟩
def iLift : Is FT 24 3 9 (liftedB 11) := ⟨⟨_, _, rfl, rfl⟩⟩
def iLsi : Is FT 25 2 5 sightB := ⟨⟨_, _, rfl, rfl⟩⟩
def iSho : Is FT 26 3 4 (showsB 21 25) := ⟨⟨_, _, rfl, rfl⟩⟩
def iCh : Is FT 27 3 7 (changedB 11 16 25) := ⟨⟨_, _, rfl, rfl⟩⟩
def iLmi : Is FT 28 4 6 (lmisB 21 25) := ⟨⟨_, _, rfl, rfl⟩⟩
def iNext : Is FT 29 4 7 (lnextB 19 25) := ⟨⟨_, _, rfl, rfl⟩⟩
section
variable {h : Hs} {Q : PV → Hs → Prop} {n d p : Nat} {t : List Pl} {w : List Nat} {seen : List D}
theorem same_e {k : Nat} {x : D} (sm : Sm k x) (hk : k < d) : cal FT d 13 [.d x, .d x] h = some (.d (.bl true), h) := eq_of_wp (same_w iSame k x h _ d sm hk ⟨rfl, rfl⟩)
theorem sm_mis : Sm 1 (misV t w seen p) := by
  unfold misV
  cases e : (List.range seen.length).findSome? (misAt t w seen p) with
  | none => exact True.intro
  | some x =>
    obtain ⟨j, _, e⟩ := List.exists_of_findSome?_eq_some e
    unfold misAt at e
    have two : ∀ s : String, PyData.strOk (Str.ofString s) = true → Sm 1 (.tup [.int (j : Nat), .str (Str.ofString s)]) := fun s so => ⟨(sz : 2 ≤ sizeLine), fun x hx => by
      simp only [List.mem_cons, List.not_mem_nil, or_false] at hx
      rcases hx with rfl | rfl
      · exact True.intro
      · exact so⟩
    split at e
    · cases e; exact two _ (by decide +kernel)
    · split at e
      · cases e
      · cases e; exact two _ (by decide +kernel)
theorem sm_ints {is : List Int} (hl : is.length ≤ 100000) : Sm 1 (.tup (is.map D.int)) := by
  refine ⟨by rw [List.length_map]; exact sz (by omega), fun x hx => ?_⟩
  obtain ⟨g, _, rfl⟩ := List.mem_map.mp hx
  exact True.intro
theorem sm_nsD {is : List Nat} (hl : is.length ≤ 100000) : Sm 1 (.tup (nsD is)) := by
  refine ⟨by unfold nsD; rw [List.length_map]; exact sz (by omega), fun x hx => ?_⟩
  obtain ⟨g, _, rfl⟩ := List.mem_map.mp hx
  exact True.intro
theorem right_e (ok : TownOk t) (t60 : t.length < 60) (hw : w.length ≤ 900) (s : SeOk (w.length + 1) seen) : cal FT (d + 10) 30 [.d (townD t), .d (walkD w), .d (.tup seen)] h = some (.d (.bl true), h) := by
  refine eq_of_wp ?_
  rw [w_cal (t := f30) rfl rfl]
  unfold f30
  have hz : sizeLine = 2 ^ 24 := rfl
  have sl := s.len
  have fl := fitL_len (t := t) (w := w) (seen := seen)
  have so := fun x hx => (s.sm x hx).1
  let E : Option PV → Option PV → Option PV → Option PV → Option PV → Option PV → Option PV → Option PV → List (Option PV) := fun e3 e4 e5 e6 e7 e8 e9 e10 => [some (.d (townD t)), some (.d (walkD w)), some (.d (.tup seen)), e3, e4, e5, e6, e7, e8, e9, e10]
  let ms : List D := (List.range t.length).map (misV t w seen)
  have ml : ms.length = t.length := by show (List.map _ _).length = _; rw [List.length_map, List.length_range]
  have msm : ∀ x ∈ ms, Sm 1 x := fun x hx => by
    obtain ⟨j, _, rfl⟩ := List.mem_map.mp hx
    exact sm_mis
  have mm : (List.range t.length).map (fun j => PV.d (misV t w seen j)) = ms.map .d := by show _ = (List.map _ _).map PV.d; rw [List.map_map]; rfl
  refine w_cut (fun e hh => hh = h ++ [Cell.lst (ms.map .d)] ∧ e = E (some (.ref h.length)) none none none none none none none) ?_ ?_
  · simp only [Pe.Pw.ws, List.set_cons_zero, List.set_cons_succ, List.length_cons, List.length_nil, List.map_cons, List.map_nil, List.cons_append, List.nil_append, List.replicate_succ, List.replicate_zero, Nat.reduceSub, Nat.reduceAdd, Nat.reduceLT, true_and, and_true, if_true, Bool.false_eq_true, if_false, true_implies, false_implies, forall_const, decide_eq_true_eq, decide_eq_false_iff_not, Bool.not_eq_true', Bool.not_eq_false', reduceCtorEq, List.length_map]
    refine ⟨by omega, ?_⟩
    rw [show ((t.length : Int) - 0).toNat = t.length by omega]
    refine w_clg (fun j => .d (misV t w seen j)) (by omega) (fun j hj => ?_) ?_
    · rw [Int.zero_add]
      simp only [Pe.Pw.ws, List.set_cons_zero, List.set_cons_succ, List.length_cons, List.length_nil, List.map_cons, List.map_nil, List.cons_append, List.nil_append, List.replicate_succ, List.replicate_zero, Nat.reduceSub, Nat.reduceAdd, Nat.reduceLT, true_and, and_true, if_true, Bool.false_eq_true, if_false, true_implies, false_implies, forall_const, decide_eq_true_eq, decide_eq_false_iff_not, Bool.not_eq_true', Bool.not_eq_false', reduceCtorEq, w_iff (lmis_e (h := h) (d := d + 6) (p := j) iLmi iEn iGo iLsi ok hj hw s)]
    · rw [mm, conv_tld]
      exact ⟨rfl, rfl⟩
  rintro _ _ ⟨rfl, rfl⟩
  refine w_cut (fun e hh => hh = h ++ [Cell.lst (ms.map .d)] ∧ e = E (some (.ref h.length)) (some (.d (.tup (nsD (fitL t w seen))))) none none none none none none) ?_ ?_
  · simp only [Pe.Pw.ws, List.set_cons_zero, List.set_cons_succ, List.length_cons, List.length_nil, List.map_cons, List.map_nil, List.cons_append, List.nil_append, List.replicate_succ, List.replicate_zero, Nat.reduceSub, Nat.reduceAdd, Nat.reduceLT, true_and, and_true, if_true, Bool.false_eq_true, if_false, true_implies, false_implies, forall_const, decide_eq_true_eq, decide_eq_false_iff_not, Bool.not_eq_true', Bool.not_eq_false', reduceCtorEq, E, List.length_map]
    refine ⟨by omega, ?_⟩
    rw [show ((t.length : Int) - 0).toNat = t.length by omega]
    refine w_clp (fitB t w seen) (fun j => .d (.int (j : Nat))) (by omega) (fun j hj => ?_) ?_
    · rw [Int.zero_add]
      have ej : L2.atI (ms.map PV.d) (j : Int) = some (.d (misV t w seen j)) := by
        show L2.atI (((List.range t.length).map (misV t w seen)).map PV.d) _ = _
        rw [atI_nat, List.getElem?_map, List.getElem?_map, List.getElem?_range hj]
        rfl
      have mi := mis_iff (t := t) (w := w) (seen := seen) (p := j) ok hj hw s
      simp only [Pe.Pw.ws, List.set_cons_zero, List.set_cons_succ, List.length_cons, List.length_nil, List.map_cons, List.map_nil, List.cons_append, List.nil_append, List.replicate_succ, List.replicate_zero, Nat.reduceSub, Nat.reduceAdd, Nat.reduceLT, true_and, and_true, if_true, Bool.false_eq_true, if_false, true_implies, false_implies, forall_const, decide_eq_true_eq, decide_eq_false_iff_not, Bool.not_eq_true', Bool.not_eq_false', reduceCtorEq, w_ixR gA0 ej]
      cases q : fitB t w seen j with
      | true =>
        rw [mi.mpr q]
        simp only [Pe.Pw.ws, List.set_cons_zero, List.set_cons_succ, List.length_cons, List.length_nil, List.map_cons, List.map_nil, List.cons_append, List.nil_append, List.replicate_succ, List.replicate_zero, Nat.reduceSub, Nat.reduceAdd, Nat.reduceLT, true_and, and_true, if_true, Bool.false_eq_true, if_false, true_implies, false_implies, forall_const, decide_eq_true_eq, decide_eq_false_iff_not, Bool.not_eq_true', Bool.not_eq_false', reduceCtorEq, isNon]
      | false =>
        have : isNon (misV t w seen j) = false := by
          cases q2 : misV t w seen j with
          | non => rw [mi.mp q2] at q; cases q
          | _ => rfl
        simp only [Pe.Pw.ws, List.set_cons_zero, List.set_cons_succ, List.length_cons, List.length_nil, List.map_cons, List.map_nil, List.cons_append, List.nil_append, List.replicate_succ, List.replicate_zero, Nat.reduceSub, Nat.reduceAdd, Nat.reduceLT, true_and, and_true, if_true, Bool.false_eq_true, if_false, true_implies, false_implies, forall_const, decide_eq_true_eq, decide_eq_false_iff_not, Bool.not_eq_true', Bool.not_eq_false', reduceCtorEq, this, Bool.false_eq_true]
    · rw [nsD_rng]
      simp only [Pe.Pw.ws, List.set_cons_zero, List.set_cons_succ, List.length_cons, List.length_nil, List.map_cons, List.map_nil, List.cons_append, List.nil_append, List.replicate_succ, List.replicate_zero, Nat.reduceSub, Nat.reduceAdd, Nat.reduceLT, true_and, and_true, if_true, Bool.false_eq_true, if_false, true_implies, false_implies, forall_const, decide_eq_true_eq, decide_eq_false_iff_not, Bool.not_eq_true', Bool.not_eq_false', reduceCtorEq, mkTup_ds]
      exact rfl
  rintro _ _ ⟨rfl, rfl⟩
  have sd : standL t w seen = (fitL t w seen).map fun p => ((endP t p w).getD 0 : Int) := rfl
  have sll : (standL t w seen).length ≤ t.length := by rw [sd, List.length_map]; exact fl
  have few : (setI (standL t w seen)).length < 60 := setI_few t60 fun x hx => by
    rw [← Pe.mem_setI] at hx
    exact ⟨stand_nn x hx, stand_lt ok hw s x hx⟩
  refine w_cut (fun e hh => hh = h ++ [Cell.lst (ms.map .d)] ∧ e = E (some (.ref h.length)) (some (.d (.tup (nsD (fitL t w seen))))) (some (.d (.tup ((setI (standL t w seen)).map D.int)))) none none none none none) ?_ ?_
  · simp only [Pe.Pw.ws, List.set_cons_zero, List.set_cons_succ, List.length_cons, List.length_nil, List.map_cons, List.map_nil, List.cons_append, List.nil_append, List.replicate_succ, List.replicate_zero, Nat.reduceSub, Nat.reduceAdd, Nat.reduceLT, true_and, and_true, if_true, Bool.false_eq_true, if_false, true_implies, false_implies, forall_const, decide_eq_true_eq, decide_eq_false_iff_not, Bool.not_eq_true', Bool.not_eq_false', reduceCtorEq, E, w_sset]
    refine w_clx (fitL t w seen) (fun j => .d (.int (j : Nat))) (fun j => .d (.int ((endP t j w).getD 0 : Nat))) (by rw [nsD_rng]; exact its_imm) (by omega) (fun j hj => ?_) ?_
    · obtain ⟨g, e⟩ := fitL_end ok hw s hj
      have e1 := led_e (h := h ++ [Cell.lst (ms.map .d)]) (d := d + 7) (t := t) (k := j) (w := w) iEn (fun h k g p e => goal_e (d := d + 7) iGo e) ok (fitL_lt hj)
      rw [e] at e1
      simp only [Pe.Pw.ws, List.set_cons_zero, List.set_cons_succ, List.length_cons, List.length_nil, List.map_cons, List.map_nil, List.cons_append, List.nil_append, List.replicate_succ, List.replicate_zero, Nat.reduceSub, Nat.reduceAdd, Nat.reduceLT, true_and, and_true, if_true, Bool.false_eq_true, if_false, true_implies, false_implies, forall_const, decide_eq_true_eq, decide_eq_false_iff_not, Bool.not_eq_true', Bool.not_eq_false', reduceCtorEq, w_iff e1, e]
      exact rfl
    · rw [show ((fitL t w seen).map fun j => PV.d (.int ((endP t j w).getD 0 : Nat))) = ((standL t w seen).map D.int).map .d by rw [sd, List.map_map, List.map_map]; rfl, w_ssetL (by omega) few]
      simp only [Pe.Pw.ws, List.set_cons_zero, List.set_cons_succ, List.length_cons, List.length_nil, List.map_cons, List.map_nil, List.cons_append, List.nil_append, List.replicate_succ, List.replicate_zero, Nat.reduceSub, Nat.reduceAdd, Nat.reduceLT, true_and, and_true, if_true, Bool.false_eq_true, if_false, true_implies, false_implies, forall_const, decide_eq_true_eq, decide_eq_false_iff_not, Bool.not_eq_true', Bool.not_eq_false', reduceCtorEq, mkTup_ds]
  rintro _ _ ⟨rfl, rfl⟩
  refine w_cut (fun e hh => hh = h ++ [Cell.lst (ms.map .d), Cell.lst (ms.map .d)] ∧ e = E (some (.ref h.length)) (some (.d (.tup (nsD (fitL t w seen))))) (some (.d (.tup ((setI (standL t w seen)).map D.int)))) (some (.ref (h.length + 1))) none none none none) ?_ ?_
  · simp only [Pe.Pw.ws, List.set_cons_zero, List.set_cons_succ, List.length_cons, List.length_nil, List.map_cons, List.map_nil, List.cons_append, List.nil_append, List.replicate_succ, List.replicate_zero, Nat.reduceSub, Nat.reduceAdd, Nat.reduceLT, true_and, and_true, if_true, Bool.false_eq_true, if_false, true_implies, false_implies, forall_const, decide_eq_true_eq, decide_eq_false_iff_not, Bool.not_eq_true', Bool.not_eq_false', reduceCtorEq, E, List.length_map]
    refine ⟨by omega, ?_⟩
    rw [show ((t.length : Int) - 0).toNat = t.length by omega]
    refine w_clg (fun j => .d (misV t w seen j)) (by omega) (fun j hj => ?_) ?_
    · rw [Int.zero_add]
      simp only [Pe.Pw.ws, List.set_cons_zero, List.set_cons_succ, List.length_cons, List.length_nil, List.map_cons, List.map_nil, List.cons_append, List.nil_append, List.replicate_succ, List.replicate_zero, Nat.reduceSub, Nat.reduceAdd, Nat.reduceLT, true_and, and_true, if_true, Bool.false_eq_true, if_false, true_implies, false_implies, forall_const, decide_eq_true_eq, decide_eq_false_iff_not, Bool.not_eq_true', Bool.not_eq_false', reduceCtorEq, w_iff (mis_e (h := h ++ [Cell.lst (ms.map .d)]) (d := d + 7) (p := j) iMi iSt iSi ok hj hw s)]
    · rw [mm, conv_tld, List.append_assoc]
      exact ⟨rfl, by rw [List.length_append]; rfl⟩
  rintro _ _ ⟨rfl, rfl⟩
  generalize hX : h ++ [Cell.lst (ms.map .d), Cell.lst (ms.map .d)] = X
  have c0 : X[h.length]? = some (.lst (ms.map .d)) := by rw [← hX]; exact gA0
  have c1 : X[h.length + 1]? = some (.lst (ms.map .d)) := by rw [← hX]; exact gA
  have xt : X.take h.length = h := by rw [← hX, List.take_left]
  generalize hE : E (some (.ref h.length)) (some (.d (.tup (nsD (fitL t w seen))))) (some (.d (.tup ((setI (standL t w seen)).map D.int)))) (some (.ref (h.length + 1))) = E2
  refine w_cut (fun e hh => hh = X ∧ e = E2 none none none none) ?_ ?_
  · rw [← hE]
    simp only [Pe.Pw.ws, List.set_cons_zero, List.set_cons_succ, List.length_cons, List.length_nil, List.map_cons, List.map_nil, List.cons_append, List.nil_append, List.replicate_succ, List.replicate_zero, Nat.reduceSub, Nat.reduceAdd, Nat.reduceLT, true_and, and_true, if_true, Bool.false_eq_true, if_false, true_implies, false_implies, forall_const, decide_eq_true_eq, decide_eq_false_iff_not, Bool.not_eq_true', Bool.not_eq_false', reduceCtorEq, E, w_iff (sameRR_w (h := X) (d := d + 8) iSame (by omega) msm c1 c0 (by omega)), Bool.not_true, w_iff (fittingP_e (h := X) (d := d + 6) iFi iAl iSt iSi ok hw s), w_iff (same_e (h := X) (d := d + 9) (sm_nsD (show (fitL t w seen).length ≤ 100000 by omega)) (by omega))]
  rintro _ X ⟨rfl, rfl⟩
  refine w_cut (fun e hh => hh = X ∧ e = E2 none none none none) ?_ ?_
  · rw [← hE]
    simp only [Pe.Pw.ws, List.set_cons_zero, List.set_cons_succ, List.length_cons, List.length_nil, List.map_cons, List.map_nil, List.cons_append, List.nil_append, List.replicate_succ, List.replicate_zero, Nat.reduceSub, Nat.reduceAdd, Nat.reduceLT, true_and, and_true, if_true, Bool.false_eq_true, if_false, true_implies, false_implies, forall_const, decide_eq_true_eq, decide_eq_false_iff_not, Bool.not_eq_true', Bool.not_eq_false', reduceCtorEq, E, Bool.not_true, w_iff (standingP_e (h := X) (d := d + 5) iSp iIx iFi iLe iAl iSt iSi ok hw s), w_iff (same_e (h := X) (d := d + 9) (sm_ints (show (setI (standL t w seen)).length ≤ 100000 by omega)) (by omega))]
  rintro _ X ⟨rfl, rfl⟩
  refine w_cut (fun e hh => hh = X ∧ e = E2 none none none none) ?_ ?_
  · have su := surely_e (h := X) (d := d + 8) (x := townD t) (y := walkD w) (z := .tup seen) (l := setI (standL t w seen)) iSu fun h => standingP_e (h := h) (d := d + 4) iSp iIx iFi iLe iAl iSt iSi ok hw s
    have so1 : Sm 1 (oneV (setI (standL t w seen))) := by unfold oneV; split <;> exact True.intro
    have q : ∀ d, 1 < d → ∀ R : PV → Hs → Prop, R (.d (.bl true)) X → Wp (cal FT d 13 [.d (oneV (setI (standL t w seen))), .d (oneV (setI (standL t w seen)))]) X R := fun d hd R r => (w_iff (same_e (h := X) (d := d) so1 hd)).mpr r
    rw [← hE]
    generalize setI (standL t w seen) = l at *
    simp only [Pe.Pw.ws, List.set_cons_zero, List.set_cons_succ, List.length_cons, List.length_nil, List.map_cons, List.map_nil, List.cons_append, List.nil_append, List.replicate_succ, List.replicate_zero, Nat.reduceSub, Nat.reduceAdd, Nat.reduceLT, true_and, and_true, if_true, Bool.false_eq_true, if_false, true_implies, false_implies, forall_const, decide_eq_true_eq, decide_eq_false_iff_not, Bool.not_eq_true', Bool.not_eq_false', reduceCtorEq, E, w_iff su, List.length_map]
    match l with
    | [] =>
      refine ⟨fun c => absurd c (by decide), fun _ => q _ (by omega) _ ?_⟩
      simp only [Pe.Pw.ws, List.set_cons_zero, List.set_cons_succ, List.length_cons, List.length_nil, List.map_cons, List.map_nil, List.cons_append, List.nil_append, List.replicate_succ, List.replicate_zero, Nat.reduceSub, Nat.reduceAdd, Nat.reduceLT, true_and, and_true, if_true, Bool.false_eq_true, if_false, true_implies, false_implies, forall_const, decide_eq_true_eq, decide_eq_false_iff_not, Bool.not_eq_true', Bool.not_eq_false', reduceCtorEq, Bool.not_true]
    | [a] =>
      refine ⟨fun _ => ?_, fun c => absurd rfl c⟩
      rw [w_ixT (x := .int a) (by rfl)]
      refine q _ (by omega) _ ?_
      simp only [Pe.Pw.ws, List.set_cons_zero, List.set_cons_succ, List.length_cons, List.length_nil, List.map_cons, List.map_nil, List.cons_append, List.nil_append, List.replicate_succ, List.replicate_zero, Nat.reduceSub, Nat.reduceAdd, Nat.reduceLT, true_and, and_true, if_true, Bool.false_eq_true, if_false, true_implies, false_implies, forall_const, decide_eq_true_eq, decide_eq_false_iff_not, Bool.not_eq_true', Bool.not_eq_false', reduceCtorEq, Bool.not_true]
    | a :: b :: r =>
      refine ⟨fun c => absurd c (by simp; omega), fun _ => q _ (by omega) _ ?_⟩
      simp only [Pe.Pw.ws, List.set_cons_zero, List.set_cons_succ, List.length_cons, List.length_nil, List.map_cons, List.map_nil, List.cons_append, List.nil_append, List.replicate_succ, List.replicate_zero, Nat.reduceSub, Nat.reduceAdd, Nat.reduceLT, true_and, and_true, if_true, Bool.false_eq_true, if_false, true_implies, false_implies, forall_const, decide_eq_true_eq, decide_eq_false_iff_not, Bool.not_eq_true', Bool.not_eq_false', reduceCtorEq, Bool.not_true]
  rintro _ X ⟨rfl, rfl⟩
  let S : Nat → List Int := fun k => setI (standL t (w.take k) (seen.take (k + 1)))
  have Sn : ∀ k, ∀ x ∈ S k, 0 ≤ x := fun k => stand_nn
  have Slt : ∀ k, k ≤ w.length → ∀ x ∈ S k, x < (t.length : Nat) := fun k hk => stand_lt ok (by rw [List.length_take]; omega) (s.take hk)
  have Sfew : ∀ k, k ≤ w.length → (S k).length < 60 := fun k hk => setI_few t60 fun x hx => by
    rw [← Pe.mem_setI] at hx
    exact ⟨Sn k x hx, Slt k hk x hx⟩
  have S0 : D.tup (nsD (fitL t [] (seen.take 1))) = .tup ((S 0).map D.int) := congrArg D.tup (stand_first s)
  have Sw : S w.length = setI (standL t w seen) := by
    show setI (standL t (w.take w.length) (seen.take (w.length + 1))) = _
    rw [List.take_length, ← sl, List.take_length]
  refine w_cut (fun e hh => hh = X ∧ e = E2 (some (.d (.tup ((S 0).map D.int)))) none none none) ?_ ?_
  · have e1 := fittingP_e (h := X) (d := d + 6) (t := t) (w := []) (seen := seen.take 1) iFi iAl iSt iSi ok (by simp) ⟨by rw [List.length_take]; simp; omega, fun x hx => s.sm x (List.mem_of_mem_take hx)⟩
    rw [S0] at e1
    rw [← hE]
    have ec : cutL seen none (some 1) = seen.take 1 := by rw [show (1 : Int) = ((1 : Nat) : Int) from rfl, cut_hi]
    have e2 : cal FT (d + 9) 5 [.d (townD t), .d (.tup []), .d (.tup (seen.take 1))] X = some (.d (.tup ((S 0).map D.int)), X) := e1
    simp only [Pe.Pw.ws, List.set_cons_zero, List.set_cons_succ, List.length_cons, List.length_nil, List.map_cons, List.map_nil, List.cons_append, List.nil_append, List.replicate_succ, List.replicate_zero, Nat.reduceSub, Nat.reduceAdd, Nat.reduceLT, true_and, and_true, if_true, Bool.false_eq_true, if_false, true_implies, false_implies, forall_const, decide_eq_true_eq, decide_eq_false_iff_not, Bool.not_eq_true', Bool.not_eq_false', reduceCtorEq, E, ec, w_iff e2]
    exact sz
  rintro _ X ⟨rfl, rfl⟩
  refine w_cut (fun e hh => hh = X ∧ ∃ e8 e9 e10, e = E2 (some (.d (.tup ((S w.length).map D.int)))) e8 e9 e10) ?_ ?_
  · rw [← hE]
    simp only [Pe.Pw.ws, List.set_cons_zero, List.set_cons_succ, List.length_cons, List.length_nil, List.map_cons, List.map_nil, List.cons_append, List.nil_append, List.replicate_succ, List.replicate_zero, Nat.reduceSub, Nat.reduceAdd, Nat.reduceLT, true_and, and_true, if_true, Bool.false_eq_true, if_false, true_implies, false_implies, forall_const, decide_eq_true_eq, decide_eq_false_iff_not, Bool.not_eq_true', Bool.not_eq_false', reduceCtorEq, E, List.length_map]
    refine ⟨by omega, ?_⟩
    rw [show ((w.length : Int) - 0).toNat = w.length by omega]
    refine w_forN (fun i e hh => hh = X ∧ ∃ e8 e9 e10, e = E (some (.ref h.length)) (some (.d (.tup (nsD (fitL t w seen))))) (some (.d (.tup ((setI (standL t w seen)).map D.int)))) (some (.ref (h.length + 1))) (some (.d (.tup ((S i).map D.int)))) e8 e9 e10) ⟨rfl, _, _, _, rfl⟩ (fun i e hh hi p => ?_) fun e hh p => p
    obtain ⟨rfl, e8, e9, e10, rfl⟩ := p
    refine w_nm.mpr ⟨(by decide : 8 < 11), ?_⟩
    rw [Int.zero_add, conv_d]
    have hs : i + 1 < seen.length := by omega
    have ea : L2.atI (w.map fun d => D.int (d : Nat)) (i : Int) = some (.int (w.getD i 0 : Nat)) := by rw [atI_nat, List.getElem?_map, List.getElem?_eq_getElem hi, List.getD_eq_getElem?_getD, List.getElem?_eq_getElem hi]; rfl
    have es : L2.atI seen ((i : Int) + 1) = some (seen.getD (i + 1) .non) := by rw [show (i : Int) + 1 = ((i + 1 : Nat) : Int) by omega, at_get hs, List.getD_eq_getElem?_getD, List.getElem?_eq_getElem hs]; rfl
    have sm3 : Sm 3 (seen.getD (i + 1) .non) := by rw [List.getD_eq_getElem?_getD, List.getElem?_eq_getElem hs]; exact so _ (List.getElem_mem hs)
    have psl : ∀ p ∈ (S i).map Int.toNat, p < t.length := fun p hp => by
      obtain ⟨x, hx, rfl⟩ := List.mem_map.mp hp
      have := Sn i x hx
      have := Slt i (by omega) x hx
      omega
    have pll : ((S i).map Int.toNat).length ≤ 1000 := by rw [List.length_map]; have := Sfew i (by omega); omega
    have n1 := lnext_e (h := hh) (d := d + 7) (t := t) (dd := w.getD i 0) (ps := (S i).map Int.toNat) (s := seen.getD (i + 1) .non) iNext iGo iLsi ok t60 psl pll sm3
    have n2 := behindP_e (h := hh) (d := d + 7) (t := t) (dd := w.getD i 0) (ps := (S i).map Int.toNat) (s := seen.getD (i + 1) .non) iBe iIx iSt iSi ok psl pll sm3
    have sn : setI (nextL t ((S i).map Int.toNat) (w.getD i 0) (seen.getD (i + 1) .non)) = S (i + 1) := stand_next ok hw s hi
    rw [← nsD_nn (Sn i), sn] at n1 n2
    simp only [Pe.Pw.ws, List.set_cons_zero, List.set_cons_succ, List.length_cons, List.length_nil, List.map_cons, List.map_nil, List.cons_append, List.nil_append, List.replicate_succ, List.replicate_zero, Nat.reduceSub, Nat.reduceAdd, Nat.reduceLT, true_and, and_true, if_true, Bool.false_eq_true, if_false, true_implies, false_implies, forall_const, decide_eq_true_eq, decide_eq_false_iff_not, Bool.not_eq_true', Bool.not_eq_false', reduceCtorEq, E, w_ixT ea, w_ixT es, w_iff n1, w_iff n2, w_iff (same_e (h := hh) (d := d + 9) (sm_ints (show (S (i + 1)).length ≤ 100000 by have := Sfew (i + 1) (by omega); omega)) (by omega)), Bool.not_true]
    exact ⟨_, _, _, rfl⟩
  rintro _ X ⟨rfl, e8, e9, e10, rfl⟩
  rw [Sw, ← hE]
  simp only [Pe.Pw.ws, List.set_cons_zero, List.set_cons_succ, List.length_cons, List.length_nil, List.map_cons, List.map_nil, List.cons_append, List.nil_append, List.replicate_succ, List.replicate_zero, Nat.reduceSub, Nat.reduceAdd, Nat.reduceLT, true_and, and_true, if_true, Bool.false_eq_true, if_false, true_implies, false_implies, forall_const, decide_eq_true_eq, decide_eq_false_iff_not, Bool.not_eq_true', Bool.not_eq_false', reduceCtorEq, E, w_iff (same_e (h := X) (d := d + 9) (sm_ints (show (setI (standL t w seen)).length ≤ 100000 by omega)) (by omega))]
  exact xt
theorem shows_gs (ok : TownOk t) (hp : p < t.length) {g : Nat} (e : endP t p w = some g) : ∃ gs : List Nat, showsP t p w = .tup (gs.map (sgt t)) ∧ gs.length = w.length + 1 ∧ ∀ g ∈ gs, g < t.length := by
  have each : ∀ j, ∃ g', endP t p (w.take j) = some g' ∧ g' < t.length := fun j => by
    obtain ⟨g', e'⟩ := endP_take w p g j e
    exact ⟨g', e', endP_lt ok _ _ _ hp e'⟩
  refine ⟨(List.range (w.length + 1)).map fun j => (endP t p (w.take j)).getD 0, ?_, by rw [List.length_map, List.length_range], fun g hg => ?_⟩
  · unfold showsP
    rw [e, List.map_map]
    refine congrArg D.tup (List.map_congr_left fun j _ => ?_)
    obtain ⟨g', e', _⟩ := each j
    rw [sightAt_sgt ok e' hp]
    show sgt t g' = sgt t ((endP t p (w.take j)).getD 0)
    rw [e']
    rfl
  · obtain ⟨j, _, rfl⟩ := List.mem_map.mp hg
    obtain ⟨g', e', l⟩ := each j
    rw [e']
    exact l
theorem behind_right {dd : Nat} {ps : List Nat} {s : D} (ok : TownOk t) (t60 : t.length < 60) (hp : ∀ p ∈ ps, p < t.length) (pl : ps.length ≤ 1000) (sm : Sm 3 s) :
    cal FT (d + 2) 8 [.d (townD t), .d (.tup (nsD ps)), .d (.int (dd : Nat)), .d s] h = some (.d (.tup ((setI (nextL t ps dd s)).map D.int)), h) ∧ cal FT (d + 2) 29 [.d (townD t), .d (.tup (nsD ps)), .d (.int (dd : Nat)), .d s] h = some (.d (.tup ((setI (nextL t ps dd s)).map D.int)), h) ∧ Sm 1 (.tup ((setI (nextL t ps dd s)).map D.int)) :=
  ⟨behindP_e iBe iIx iSt iSi ok hp pl sm, lnext_e iNext iGo iLsi ok t60 hp pl sm, sm_ints (by have := setI_few t60 (next_lt (dd := dd) (s := s) ok hp); omega)⟩
theorem holds : ∀ ns : List Int, ns.length ≤ 63 → ∃ h, Pe.call FT 200 31 [.fl (ns.map .int)] [] = some (.d (.bl true), h) := by
  intro ns hns
  rw [← cal_eq]
  have w : Wp (cal FT (199 + 1) 31 [.fl (ns.map .int)]) [] fun v _ => v = .d (.bl true) := by
    rw [w_cal (t := f31) rfl rfl]
    unfold f31
    have hz : sizeLine = 2 ^ 24 := rfl
    let E : Option PV → Option PV → Option PV → Option PV → Option PV → Option PV → Option PV → Option PV → Option PV → Option PV → List (Option PV) := fun e2 e3 e4 e5 e6 e7 e8 e9 e10 e11 => [some (.fl (ns.map D.int)), some (.ref 0), e2, e3, e4, e5, e6, e7, e8, e9, e10, e11]
    let TOk : List Pl → Prop := fun t => 0 < t.length ∧ t.length ≤ 8 ∧ TownOk t
    refine w_cut (fun e h1 => e = E none none none none none none none none none none ∧ Dr 0 h1) ?_ ?_
    · simp only [Pe.Pw.ws, List.set_cons_zero, List.set_cons_succ, List.length_cons, List.length_nil, List.map_cons, List.map_nil, List.cons_append, List.nil_append, List.replicate_succ, List.replicate_zero, Nat.reduceSub, Nat.reduceAdd, Nat.reduceLT, true_and, and_true, if_true, Bool.false_eq_true, if_false, true_implies, false_implies, forall_const, decide_eq_true_eq, decide_eq_false_iff_not, Bool.not_eq_true', Bool.not_eq_false', reduceCtorEq]
      refine draws_w iDraws (many := 500) hns (by omega) fun ds => ?_
      rw [mapI, conv_tld]
      exact ⟨rfl, ds, by rw [← mapI]; rfl⟩
    rintro _ h ⟨rfl, a⟩
    refine w_cut (fun e h1 => ∃ (c : Nat) (ts : List (List Pl)), ts.length = 2 ∧ c ≠ 0 ∧ (∀ t ∈ ts, TOk t) ∧ h1[c]? = some (.lst ((ts.map townD).map .d)) ∧ e = E (some (.ref c)) none none none none none none none none none ∧ Dr 0 h1) ?_ ?_
    · simp only [Pe.Pw.ws, List.set_cons_zero, List.set_cons_succ, List.length_cons, List.length_nil, List.map_cons, List.map_nil, List.cons_append, List.nil_append, List.replicate_succ, List.replicate_zero, Nat.reduceSub, Nat.reduceAdd, Nat.reduceLT, true_and, and_true, if_true, Bool.false_eq_true, if_false, true_implies, false_implies, forall_const, decide_eq_true_eq, decide_eq_false_iff_not, Bool.not_eq_true', Bool.not_eq_false', reduceCtorEq, E]
      refine anyTown_w (d := 195) (most := 8) (wide := 3) iAny iTake iWords iPick (by omega) (by omega) (by omega) (by omega) a fun t1 g1 l0 l1 p1 b1 => ?_
      refine twoWay_w (d := 195) (least := 1) (most := 8) iTwoWay iTake iWords iLink rfl iPick iShuf (by omega) (by omega) (by omega) (b1.dr a) fun t2 g2 m0 m1 p2 b2 => ?_
      have b2 := b1.trans b2
      rw [show [PV.d (townD t1), .d (townD t2)] = ([t1, t2].map townD).map .d from rfl, conv_tld]
      refine ⟨sz, g2.length, [t1, t2], rfl, ?_, fun t ht => ?_, gA0, rfl, (b2.dr a).app⟩
      · have := (b2.dr a).lt
        omega
      · simp only [List.mem_cons, List.not_mem_nil, or_false] at ht
        rcases ht with rfl | rfl
        · exact ⟨l0, l1, town_of (by omega) (by omega) p1⟩
        · exact ⟨m0, m1, town_of (by omega) (by omega) p2⟩
    clear a h
    rintro _ h ⟨c, ts, tl, c0, tok, ec, rfl, a⟩
    refine w_cut (fun e h1 => ∃ (ts : List (List Pl)), ts.length ≤ 10 ∧ (∀ t ∈ ts, TOk t) ∧ h1[c]? = some (.lst ((ts.map townD).map .d)) ∧ e = E (some (.ref c)) none none none none none none none none none ∧ Dr 0 h1) ?_ ?_
    · simp only [Pe.Pw.ws, List.set_cons_zero, List.set_cons_succ, List.length_cons, List.length_nil, List.map_cons, List.map_nil, List.cons_append, List.nil_append, List.replicate_succ, List.replicate_zero, Nat.reduceSub, Nat.reduceAdd, Nat.reduceLT, true_and, and_true, if_true, Bool.false_eq_true, if_false, true_implies, false_implies, forall_const, decide_eq_true_eq, decide_eq_false_iff_not, Bool.not_eq_true', Bool.not_eq_false', reduceCtorEq, E]
      refine anyTown_w (d := 195) (most := 4) (wide := 2) iAny iTake iWords iPick (by omega) (by omega) (by omega) (by omega) a fun t1 g1 l0 l1 p1 b1 => ?_
      refine lifted_w (d := 197) (folds := 2) (wide := 2) iLift iTake (by omega) (by omega) (by omega) (by omega) p1 (b1.dr a) fun t2 g2 m1 p2 b2 => ?_
      have b2 := b1.trans b2
      have ec2 : g2[c]? = some (.lst ((ts.map townD).map .d)) := by rw [b2.get c0]; exact ec
      have cl := (List.getElem?_eq_some_iff.mp ec2).1
      rw [w_app (h := g2) ec2 (show ((ts.map townD).map PV.d).length < sizeLine by rw [List.length_map, List.length_map]; omega)]
      refine ⟨ts ++ [t2], by rw [List.length_append, List.length_singleton]; omega, fun t ht => ?_, by rw [List.getElem?_set_self cl]; simp, ?_⟩
      · rcases List.mem_append.mp ht with ht | ht
        · exact tok t ht
        · rw [List.mem_singleton.mp ht]
          exact ⟨by omega, by omega, town_of (wide := 2) (by omega) (by omega) (by rw [m1]; exact p2)⟩
      · obtain ⟨ds, e⟩ := b2.dr a
        exact ⟨ds, by rw [List.getElem?_set_ne c0]; exact e⟩
    clear a ec tok tl ts h
    rintro _ h ⟨ts, tl, tok, ec, rfl, a⟩
    refine w_cut (fun e h1 => True) ?_ (fun e h1 _ => ?_)
    rotate_left
    · simp only [Pe.Pw.ws, List.set_cons_zero, List.set_cons_succ, List.length_cons, List.length_nil, List.map_cons, List.map_nil, List.cons_append, List.nil_append, List.replicate_succ, List.replicate_zero, Nat.reduceSub, Nat.reduceAdd, Nat.reduceLT, true_and, and_true, if_true, Bool.false_eq_true, if_false, true_implies, false_implies, forall_const, decide_eq_true_eq, decide_eq_false_iff_not, Bool.not_eq_true', Bool.not_eq_false', reduceCtorEq]
    simp only [Pe.Pw.ws, List.set_cons_zero, List.set_cons_succ, List.length_cons, List.length_nil, List.map_cons, List.map_nil, List.cons_append, List.nil_append, List.replicate_succ, List.replicate_zero, Nat.reduceSub, Nat.reduceAdd, Nat.reduceLT, true_and, and_true, if_true, Bool.false_eq_true, if_false, true_implies, false_implies, forall_const, decide_eq_true_eq, decide_eq_false_iff_not, Bool.not_eq_true', Bool.not_eq_false', reduceCtorEq, E]
    refine w_for ((ts.map townD).map .d) (fun i e h1 => ∃ e3 e4 e5 e6 e7 e8 e9 e10 e11, e = E (some (.ref c)) e3 e4 e5 e6 e7 e8 e9 e10 e11 ∧ h1[c]? = some (.lst ((ts.map townD).map .d)) ∧ Dr 0 h1) ⟨_, _, _, _, _, _, _, _, _, rfl, ec, a⟩ (fun i e h1 _ p => by obtain ⟨_, _, _, _, _, _, _, _, _, _, e, _⟩ := p; exact its_cell e) (fun i e h1 v ev p => ?_) fun e h1 p => trivial
    clear ec a h
    obtain ⟨e3, e4, e5, e6, e7, e8, e9, e10, e11, rfl, ec, a⟩ := p
    have hi := (List.getElem?_eq_some_iff.mp ev).1
    rw [List.length_map, List.length_map] at hi
    rw [List.getElem?_map, List.getElem?_map, List.getElem?_eq_getElem hi] at ev
    cases ev
    obtain ⟨t0, t8, to⟩ := tok _ (List.getElem_mem hi)
    generalize ts[i] = t at *
    refine w_nm.mpr ⟨(by decide : 3 < 12), ?_⟩
    rw [conv_d]
    refine w_cut (fun e h1 => ∃ e4 e8 e9 e10 e11, e = E (some (.ref c)) (some (.d (townD t))) e4 e5 e6 e7 e8 e9 e10 e11 ∧ h1[c]? = some (.lst ((ts.map townD).map .d)) ∧ Dr 0 h1) ?_ ?_
    · simp only [Pe.Pw.ws, List.set_cons_zero, List.set_cons_succ, List.length_cons, List.length_nil, List.map_cons, List.map_nil, List.cons_append, List.nil_append, List.replicate_succ, List.replicate_zero, Nat.reduceSub, Nat.reduceAdd, Nat.reduceLT, true_and, and_true, if_true, Bool.false_eq_true, if_false, true_implies, false_implies, forall_const, decide_eq_true_eq, decide_eq_false_iff_not, Bool.not_eq_true', Bool.not_eq_false', reduceCtorEq, E]
      refine ⟨by omega, ?_⟩
      rw [show ((3 : Int) - 0).toNat = 3 from rfl]
      refine w_forN (fun i e h1 => ∃ e4 e8 e9 e10 e11, e = E (some (.ref c)) (some (.d (townD t))) e4 e5 e6 e7 e8 e9 e10 e11 ∧ h1[c]? = some (.lst ((ts.map townD).map .d)) ∧ Dr 0 h1) ⟨_, _, _, _, _, rfl, ec, a⟩ (fun i e h hi p => ?_) fun e h p => p
      clear ec a h1 e4 e8 e9 e10 e11
      obtain ⟨e4, e8, e9, e10, e11, rfl, ec, a⟩ := p
      refine w_nm.mpr ⟨(by decide : 4 < 12), ?_⟩
      rw [conv_d]
      refine w_cut (fun e h1 => ∃ (w : List Nat) (k g : Nat) (e4 : Option PV), k < t.length ∧ endP t k w = some g ∧ w.length ≤ 10 ∧ e = E (some (.ref c)) (some (.d (townD t))) e4 e5 e6 e7 (some (.d (walkD w))) e9 e10 e11 ∧ h1[c]? = some (.lst ((ts.map townD).map .d)) ∧ Dr 0 h1) ?_ ?_
      · simp only [Pe.Pw.ws, List.set_cons_zero, List.set_cons_succ, List.length_cons, List.length_nil, List.map_cons, List.map_nil, List.cons_append, List.nil_append, List.replicate_succ, List.replicate_zero, Nat.reduceSub, Nat.reduceAdd, Nat.reduceLT, true_and, and_true, if_true, Bool.false_eq_true, if_false, true_implies, false_implies, forall_const, decide_eq_true_eq, decide_eq_false_iff_not, Bool.not_eq_true', Bool.not_eq_false', reduceCtorEq, E, List.length_map]
        refine take_w iTake (by omega) a fun r g1 r0 r1 b1 => ?_
        obtain ⟨k, rfl⟩ := Int.eq_ofNat_of_zero_le r0
        refine ⟨sz, ?_⟩
        refine pickI_w iPick iTake [2, 4, 10] rfl (by decide) (b1.dr a) fun r g2 hr b2 => ?_
        have b2 := b1.trans b2
        obtain ⟨m, rfl, hm⟩ : ∃ m : Nat, r = (m : Int) ∧ m ≤ 10 := by
          simp only [List.mem_cons, List.not_mem_nil, or_false] at hr
          rcases hr with rfl | rfl | rfl
          · exact ⟨2, rfl, by decide⟩
          · exact ⟨4, rfl, by decide⟩
          · exact ⟨10, rfl, by decide⟩
        refine walk_w (most := m) iWalk iTake iPick iOpens to (show k < t.length by omega) (by omega) (b2.dr a) fun w gl g3 ew hw b3 => ?_
        have b3 := b2.trans b3
        simp only [Pe.Pw.ws, List.set_cons_zero, List.set_cons_succ, List.length_cons, List.length_nil, List.map_cons, List.map_nil, List.cons_append, List.nil_append, List.replicate_succ, List.replicate_zero, Nat.reduceSub, Nat.reduceAdd, Nat.reduceLT, true_and, and_true, if_true, Bool.false_eq_true, if_false, true_implies, false_implies, forall_const, decide_eq_true_eq, decide_eq_false_iff_not, Bool.not_eq_true', Bool.not_eq_false', reduceCtorEq]
        exact ⟨w, k, gl, _, by omega, ew, by omega, rfl, by rw [b3.get c0]; exact ec, b3.dr a⟩
      clear ec a h e4 e8
      rintro _ h ⟨w, k, g, e4, hk, ew, hw, rfl, ec, a⟩
      refine w_cut (fun e h1 => ∃ (c9 : Nat) (js : List Nat), 0 < js.length ∧ c9 ≠ 0 ∧ (∀ j ∈ js, j < t.length ∧ ∃ g, endP t j w = some g) ∧ h1[c9]? = some (.lst ((nsD js).map .d)) ∧ e = E (some (.ref c)) (some (.d (townD t))) e4 e5 e6 e7 (some (.d (walkD w))) (some (.ref c9)) e10 e11 ∧ h1[c]? = some (.lst ((ts.map townD).map .d)) ∧ Dr 0 h1) ?_ ?_
      · simp only [Pe.Pw.ws, List.set_cons_zero, List.set_cons_succ, List.length_cons, List.length_nil, List.map_cons, List.map_nil, List.cons_append, List.nil_append, List.replicate_succ, List.replicate_zero, Nat.reduceSub, Nat.reduceAdd, Nat.reduceLT, true_and, and_true, if_true, Bool.false_eq_true, if_false, true_implies, false_implies, forall_const, decide_eq_true_eq, decide_eq_false_iff_not, Bool.not_eq_true', Bool.not_eq_false', reduceCtorEq, E, List.length_map]
        refine ⟨by omega, ?_⟩
        rw [show ((t.length : Int) - 0).toNat = t.length by omega]
        refine w_clp (fun j => (endP t j w).isSome) (fun j => .d (.int (j : Nat))) (by omega) (fun j hj => ?_) ?_
        · rw [Int.zero_add]
          have e1 := led_e (h := h) (d := 197) (t := t) (k := j) (w := w) iEn (fun h k g p e => goal_e (d := 197) iGo e) to hj
          simp only [Pe.Pw.ws, List.set_cons_zero, List.set_cons_succ, List.length_cons, List.length_nil, List.map_cons, List.map_nil, List.cons_append, List.nil_append, List.replicate_succ, List.replicate_zero, Nat.reduceSub, Nat.reduceAdd, Nat.reduceLT, true_and, and_true, if_true, Bool.false_eq_true, if_false, true_implies, false_implies, forall_const, decide_eq_true_eq, decide_eq_false_iff_not, Bool.not_eq_true', Bool.not_eq_false', reduceCtorEq, w_iff e1]
          cases endP t j w <;> simp [oN, isNon]
        · rw [nsD_rng, conv_tld]
          refine ⟨h.length, (List.range t.length).filter fun j => (endP t j w).isSome, ?_, ?_, fun j hj => ?_, gA0, rfl, ?_, a.app⟩
          · have : k ∈ (List.range t.length).filter fun j => (endP t j w).isSome := List.mem_filter.mpr ⟨List.mem_range.mpr hk, by rw [ew]; rfl⟩
            exact List.length_pos_of_mem this
          · have := a.lt
            omega
          · obtain ⟨h1, h2⟩ := List.mem_filter.mp hj
            exact ⟨List.mem_range.mp h1, Option.isSome_iff_exists.mp h2⟩
          · rw [List.getElem?_append_left (List.getElem?_eq_some_iff.mp ec).1]
            exact ec
      clear ec a h e9 hk ew g k
      rintro _ h ⟨c9, js, j0, c90, jok, e9, rfl, ec, a⟩
      refine w_cut (fun e h1 => ∃ (seen : List D), SeOk (w.length + 1) seen ∧ e = E (some (.ref c)) (some (.d (townD t))) e4 e5 e6 e7 (some (.d (walkD w))) (some (.ref c9)) (some (.d (.tup seen))) e11 ∧ h1[c]? = some (.lst ((ts.map townD).map .d)) ∧ Dr 0 h1) ?_ ?_
      · simp only [Pe.Pw.ws, List.set_cons_zero, List.set_cons_succ, List.length_cons, List.length_nil, List.map_cons, List.map_nil, List.cons_append, List.nil_append, List.replicate_succ, List.replicate_zero, Nat.reduceSub, Nat.reduceAdd, Nat.reduceLT, true_and, and_true, if_true, Bool.false_eq_true, if_false, true_implies, false_implies, forall_const, decide_eq_true_eq, decide_eq_false_iff_not, Bool.not_eq_true', Bool.not_eq_false', reduceCtorEq, E]
        refine pick_r iPick iTake e9 c90 (by unfold nsD; rw [List.length_map]; exact j0) a fun v g1 hv b1 => ?_
        obtain ⟨j, hj, rfl⟩ := List.mem_map.mp hv
        obtain ⟨hjt, g, eg⟩ := jok j hj
        obtain ⟨gs, e1, gl, gok⟩ := shows_gs to hjt eg
        have e2 := shows_e (h := g1) (d := 195) (k := j) (w := w) iSho iLsi to (fun h k w hk => led_e (d := 196) iEn (fun h k g p e => goal_e (d := 196) iGo e) to hk) hjt (by omega)
        rw [e1] at e2
        simp only [Pe.Pw.ws, List.set_cons_zero, List.set_cons_succ, List.length_cons, List.length_nil, List.map_cons, List.map_nil, List.cons_append, List.nil_append, List.replicate_succ, List.replicate_zero, Nat.reduceSub, Nat.reduceAdd, Nat.reduceLT, true_and, and_true, if_true, Bool.false_eq_true, if_false, true_implies, false_implies, forall_const, decide_eq_true_eq, decide_eq_false_iff_not, Bool.not_eq_true', Bool.not_eq_false', reduceCtorEq, w_iff e2]
        refine changed_w (d := 197) iCh iTake iPut iLsi to t0 (by omega) (by omega) gok (b1.dr a) fun ss g2 so b2 => ?_
        have b2 := b1.trans b2
        simp only [Pe.Pw.ws, List.set_cons_zero, List.set_cons_succ, List.length_cons, List.length_nil, List.map_cons, List.map_nil, List.cons_append, List.nil_append, List.replicate_succ, List.replicate_zero, Nat.reduceSub, Nat.reduceAdd, Nat.reduceLT, true_and, and_true, if_true, Bool.false_eq_true, if_false, true_implies, false_implies, forall_const, decide_eq_true_eq, decide_eq_false_iff_not, Bool.not_eq_true', Bool.not_eq_false', reduceCtorEq]
        exact ⟨ss, by rw [← gl]; exact so, rfl, by rw [b2.get c0]; exact ec, b2.dr a⟩
      clear ec a h e10 e9 jok j0 js
      rintro _ h ⟨seen, so, rfl, ec, a⟩
      simp only [Pe.Pw.ws, List.set_cons_zero, List.set_cons_succ, List.length_cons, List.length_nil, List.map_cons, List.map_nil, List.cons_append, List.nil_append, List.replicate_succ, List.replicate_zero, Nat.reduceSub, Nat.reduceAdd, Nat.reduceLT, true_and, and_true, if_true, Bool.false_eq_true, if_false, true_implies, false_implies, forall_const, decide_eq_true_eq, decide_eq_false_iff_not, Bool.not_eq_true', Bool.not_eq_false', reduceCtorEq, E, w_iff (right_e (h := h) (d := 189) to (by omega) (by omega) so), Bool.not_true]
      exact ⟨_, _, _, _, _, rfl, ec, a⟩
    clear ec a h1 e3 e4 e8 e9 e10 e11
    rintro _ h ⟨e4, e8, e9, e10, e11, rfl, ec, a⟩
    refine w_cut (fun e h1 => ∃ (ps : List Nat), ps.length ≤ 100 ∧ (∀ p ∈ ps, p < t.length) ∧ e = E (some (.ref c)) (some (.d (townD t))) e4 (some (.d (.tup (nsD ps)))) e6 e7 e8 e9 e10 e11 ∧ h1[c]? = some (.lst ((ts.map townD).map .d)) ∧ Dr 0 h1) ?_ ?_
    · simp only [Pe.Pw.ws, List.set_cons_zero, List.set_cons_succ, List.length_cons, List.length_nil, List.map_cons, List.map_nil, List.cons_append, List.nil_append, List.replicate_succ, List.replicate_zero, Nat.reduceSub, Nat.reduceAdd, Nat.reduceLT, true_and, and_true, if_true, Bool.false_eq_true, if_false, true_implies, false_implies, forall_const, decide_eq_true_eq, decide_eq_false_iff_not, Bool.not_eq_true', Bool.not_eq_false', reduceCtorEq, E, List.length_map]
      refine ⟨by omega, ?_⟩
      rw [show ((t.length : Int) - 0).toNat = t.length by omega]
      refine w_clN (fun i acc hh => ∃ ps : List Nat, ps.length ≤ i ∧ (∀ p ∈ ps, p < t.length) ∧ acc = (nsD ps).map .d ∧ Dn 0 h hh) ⟨[], Nat.le_refl _, fun p hp => absurd hp List.not_mem_nil, rfl, Dn.refl a⟩ (fun i acc hh hi p => ?_) fun acc hh p => ?_
      · obtain ⟨ps, pl, pt, rfl, b⟩ := p
        simp only [Pe.Pw.ws, List.set_cons_zero, List.set_cons_succ, List.length_cons, List.length_nil, List.map_cons, List.map_nil, List.cons_append, List.nil_append, List.replicate_succ, List.replicate_zero, Nat.reduceSub, Nat.reduceAdd, Nat.reduceLT, true_and, and_true, if_true, Bool.false_eq_true, if_false, true_implies, false_implies, forall_const, decide_eq_true_eq, decide_eq_false_iff_not, Bool.not_eq_true', Bool.not_eq_false', reduceCtorEq]
        refine take_w iTake (by decide) (b.dr a) fun r g r0 r1 b1 => ?_
        have b2 := b.trans b1
        rw [Int.zero_add]
        simp only [Pe.Pw.ws, List.set_cons_zero, List.set_cons_succ, List.length_cons, List.length_nil, List.map_cons, List.map_nil, List.cons_append, List.nil_append, List.replicate_succ, List.replicate_zero, Nat.reduceSub, Nat.reduceAdd, Nat.reduceLT, true_and, and_true, if_true, Bool.false_eq_true, if_false, true_implies, false_implies, forall_const, decide_eq_true_eq, decide_eq_false_iff_not, Bool.not_eq_true', Bool.not_eq_false', reduceCtorEq]
        refine ⟨fun _ => ⟨⟨ps ++ [i], by rw [List.length_append, List.length_singleton]; omega, fun p hp => ?_, by simp [nsD], b2⟩, by unfold nsD; rw [List.length_map, List.length_map]; omega⟩, fun _ => ⟨ps, by omega, pt, rfl, b2⟩⟩
        rcases List.mem_append.mp hp with hp | hp
        · exact pt p hp
        · rw [List.mem_singleton.mp hp]; exact hi
      · obtain ⟨ps, pl, pt, rfl, b⟩ := p
        simp only [Pe.Pw.ws, List.set_cons_zero, List.set_cons_succ, List.length_cons, List.length_nil, List.map_cons, List.map_nil, List.cons_append, List.nil_append, List.replicate_succ, List.replicate_zero, Nat.reduceSub, Nat.reduceAdd, Nat.reduceLT, true_and, and_true, if_true, Bool.false_eq_true, if_false, true_implies, false_implies, forall_const, decide_eq_true_eq, decide_eq_false_iff_not, Bool.not_eq_true', Bool.not_eq_false', reduceCtorEq, mkTup_ds]
        exact ⟨ps, by omega, pt, rfl, by rw [b.get c0]; exact ec, b.dr a⟩
    clear ec a h e5
    rintro _ h ⟨ps, pl, pt, rfl, ec, a⟩
    refine w_cut (fun e h1 => ∃ dd : Nat, e = E (some (.ref c)) (some (.d (townD t))) e4 (some (.d (.tup (nsD ps)))) (some (.d (.int (dd : Nat)))) e7 e8 e9 e10 e11 ∧ h1[c]? = some (.lst ((ts.map townD).map .d)) ∧ Dr 0 h1) ?_ ?_
    · simp only [Pe.Pw.ws, List.set_cons_zero, List.set_cons_succ, List.length_cons, List.length_nil, List.map_cons, List.map_nil, List.cons_append, List.nil_append, List.replicate_succ, List.replicate_zero, Nat.reduceSub, Nat.reduceAdd, Nat.reduceLT, true_and, and_true, if_true, Bool.false_eq_true, if_false, true_implies, false_implies, forall_const, decide_eq_true_eq, decide_eq_false_iff_not, Bool.not_eq_true', Bool.not_eq_false', reduceCtorEq, E]
      refine ⟨⟨by decide, by decide, by decide⟩, sz, ?_⟩
      refine pickI_w iPick iTake [0, 0, 1, 2, 10 ^ Int.toNat 20] rfl (by decide) a fun r g hr b => ?_
      obtain ⟨m, rfl⟩ : ∃ m : Nat, r = (m : Int) := by
        simp only [List.mem_cons, List.not_mem_nil, or_false] at hr
        rcases hr with rfl | rfl | rfl | rfl | rfl
        · exact ⟨0, rfl⟩
        · exact ⟨0, rfl⟩
        · exact ⟨1, rfl⟩
        · exact ⟨2, rfl⟩
        · exact ⟨10 ^ 20, rfl⟩
      simp only [Pe.Pw.ws, List.set_cons_zero, List.set_cons_succ, List.length_cons, List.length_nil, List.map_cons, List.map_nil, List.cons_append, List.nil_append, List.replicate_succ, List.replicate_zero, Nat.reduceSub, Nat.reduceAdd, Nat.reduceLT, true_and, and_true, if_true, Bool.false_eq_true, if_false, true_implies, false_implies, forall_const, decide_eq_true_eq, decide_eq_false_iff_not, Bool.not_eq_true', Bool.not_eq_false', reduceCtorEq]
      exact ⟨m, rfl, by rw [b.get c0]; exact ec, b.dr a⟩
    clear ec a h e6
    rintro _ h ⟨dd, rfl, ec, a⟩
    refine w_cut (fun e h1 => ∃ s : D, Sm 3 s ∧ e = E (some (.ref c)) (some (.d (townD t))) e4 (some (.d (.tup (nsD ps)))) (some (.d (.int (dd : Nat)))) (some (.d s)) e8 e9 e10 e11 ∧ h1[c]? = some (.lst ((ts.map townD).map .d)) ∧ Dr 0 h1) ?_ ?_
    · simp only [Pe.Pw.ws, List.set_cons_zero, List.set_cons_succ, List.length_cons, List.length_nil, List.map_cons, List.map_nil, List.cons_append, List.nil_append, List.replicate_succ, List.replicate_zero, Nat.reduceSub, Nat.reduceAdd, Nat.reduceLT, true_and, and_true, if_true, Bool.false_eq_true, if_false, true_implies, false_implies, forall_const, decide_eq_true_eq, decide_eq_false_iff_not, Bool.not_eq_true', Bool.not_eq_false', reduceCtorEq, E, List.length_map]
      refine take_w iTake (by omega) a fun r g r0 r1 b => ?_
      obtain ⟨r, rfl⟩ := Int.eq_ofNat_of_zero_le r0
      have hr : r < t.length := by omega
      have e2 := sight_e (h := g) (d := 198) (t := t) (k := r) iLsi to (List.getElem?_eq_getElem hr)
      rw [← sgt_at hr] at e2
      simp only [Pe.Pw.ws, List.set_cons_zero, List.set_cons_succ, List.length_cons, List.length_nil, List.map_cons, List.map_nil, List.cons_append, List.nil_append, List.replicate_succ, List.replicate_zero, Nat.reduceSub, Nat.reduceAdd, Nat.reduceLT, true_and, and_true, if_true, Bool.false_eq_true, if_false, true_implies, false_implies, forall_const, decide_eq_true_eq, decide_eq_false_iff_not, Bool.not_eq_true', Bool.not_eq_false', reduceCtorEq, w_iff e2]
      exact ⟨_, (sgt_ok (k := 1) to hr).1, rfl, by rw [b.get c0]; exact ec, b.dr a⟩
    clear ec a h e7
    rintro _ h ⟨s, sm, rfl, ec, a⟩
    obtain ⟨n1, n2, sm1⟩ := behind_right (h := h) (d := 197) (t := t) (dd := dd) (ps := ps) (s := s) to (by omega) pt (by omega) sm
    simp only [Pe.Pw.ws, List.set_cons_zero, List.set_cons_succ, List.length_cons, List.length_nil, List.map_cons, List.map_nil, List.cons_append, List.nil_append, List.replicate_succ, List.replicate_zero, Nat.reduceSub, Nat.reduceAdd, Nat.reduceLT, true_and, and_true, if_true, Bool.false_eq_true, if_false, true_implies, false_implies, forall_const, decide_eq_true_eq, decide_eq_false_iff_not, Bool.not_eq_true', Bool.not_eq_false', reduceCtorEq, E, w_iff n1, w_iff n2, w_iff (same_e (h := h) (d := 199) sm1 (by omega)), Bool.not_true]
    exact ⟨_, _, _, _, _, _, _, _, _, rfl, ec, a⟩
  obtain ⟨v, h1, e, rfl⟩ := wp_some w
  exact ⟨h1, e⟩
end
end K02
open PySem PySem.W PyProof.Rows in
set_option maxHeartbeats 0 in
theorem PySem.Challenge.cw_mapwalked_k02_fitting_and_standing_holds : PySem.Challenge.rw_mapwalked_k02_fitting_and_standing.Holds := by
  w_on; o_law; k_head; (case hw => w_witness2)
  k_fill
  refine L2.walk_of (l := PySem.Challenge.rw_mapwalked_k02_fitting_and_standing) (n := 63) (k := 200) (x := Str.ofString "script") (CX := fun _ => L2.CX0) (sp := fun w => Pe.spC _ (Pe.call K02.FT 200 31) 1) rfl (by decide) rfl ⟨rfl, by decide, by decide⟩ (fun w h Y => PySem.W.kIn_of Y) ?F (fun _ H a ns hl hO hS => Pe.law_sp K02.holds H a ns hl hO hS) (fun _ _ _ _ _ h => h)
  case F =>
    intro w mg fa h KX G hmg
    have t0 := Pe.fnK_mk (t := K02.f0) (st := K02.topS 1) KX G (fun _ _ _ _ _ _ us hl => match us, hl with | [_], _ => rfl) (by k_is) (by k_is) (by k_is) (by k_is)
    have t1 := Pe.fnK_mk (t := K02.f1) (st := K02.topS 3) KX G (fun _ _ _ _ _ _ us hl => match us, hl with | [_, _], _ => rfl) (by k_is) (by k_is) (by k_is) (by k_is)
    have t2 := Pe.fnK_mk (t := K02.f2) (st := K02.topS 4) KX G (fun _ _ _ _ _ _ us hl => match us, hl with | [_, _, _], _ => rfl) (by k_is) (by k_is) (by k_is) (by k_is)
    have t3 := Pe.fnK_mk (t := K02.f3) (st := K02.topS 5) KX G (fun _ _ _ _ _ _ us hl => match us, hl with | [_, _, _], _ => rfl) (by k_is) (by k_is) (by k_is) (by k_is)
    have t4 := Pe.fnK_mk (t := K02.f4) (st := K02.topS 6) KX G (fun _ _ _ _ _ _ us hl => match us, hl with | [_, _, _], _ => rfl) (by k_is) (by k_is) (by k_is) (by k_is)
    have t5 := Pe.fnK_mk (t := K02.f5) (st := K02.topS 8) KX G (fun _ _ _ _ _ _ us hl => match us, hl with | [_, _, _], _ => rfl) (by k_is) (by k_is) (by k_is) (by k_is)
    have t6 := Pe.fnK_mk (t := K02.f6) (st := K02.topS 9) KX G (fun _ _ _ _ _ _ us hl => match us, hl with | [_, _, _], _ => rfl) (by k_is) (by k_is) (by k_is) (by k_is)
    have t7 := Pe.fnK_mk (t := K02.f7) (st := K02.topS 10) KX G (fun _ _ _ _ _ _ us hl => match us, hl with | [_, _, _], _ => rfl) (by k_is) (by k_is) (by k_is) (by k_is)
    have t8 := Pe.fnK_mk (t := K02.f8) (st := K02.topS 11) KX G (fun _ _ _ _ _ _ us hl => match us, hl with | [_, _, _, _], _ => rfl) (by k_is) (by k_is) (by k_is) (by k_is)
    have t9 := Pe.fnK_mk (t := K02.f9) (st := K02.topS 12) KX G (fun _ _ _ _ _ _ us hl => match us, hl with | [_, _, _, _], _ => rfl) (by k_is) (by k_is) (by k_is) (by k_is)
    have t10 := Pe.fnK_mk (t := K02.f10) (st := K02.topS 14) KX G (fun _ _ _ _ _ _ us hl => match us, hl with | [_, _], _ => rfl) (by k_is) (by k_is) (by k_is) (by k_is)
    have t11 := Pe.fnK_mk (t := K02.f11) (st := K02.topS 15) KX G (fun _ _ _ _ _ _ us hl => match us, hl with | [_, _], _ => rfl) (by k_is) (by k_is) (by k_is) (by k_is)
    have t12 := Pe.fnK_mk (t := K02.f12) (st := K02.topS 16) KX G (fun _ _ _ _ _ _ us hl => match us, hl with | [_, _], _ => rfl) (by k_is) (by k_is) (by k_is) (by k_is)
    have t13 := Pe.fnK_mk (t := K02.f13) (st := K02.topS 17) KX G (fun _ _ _ _ _ _ us hl => match us, hl with | [_, _], _ => rfl) (by k_is) (by k_is) (by k_is) (by k_is)
    have t14 := Pe.fnK_mk (t := K02.f14) (st := K02.topS 18) KX G (fun _ _ _ _ _ _ us hl => match us, hl with | [_, _], _ => rfl) (by k_is) (by k_is) (by k_is) (by k_is)
    have t15 := Pe.fnK_mk (t := K02.f15) (st := K02.topS 19) KX G (fun _ _ _ _ _ _ us hl => match us, hl with | [_, _], _ => rfl) (by k_is) (by k_is) (by k_is) (by k_is)
    have t16 := Pe.fnK_mk (t := K02.f16) (st := K02.topS 20) KX G (fun _ _ _ _ _ _ us hl => match us, hl with | [_, _, _], _ => rfl) (by k_is) (by k_is) (by k_is) (by k_is)
    have t17 := Pe.fnK_mk (t := K02.f17) (st := K02.topS 21) KX G (fun _ _ _ _ _ _ us hl => match us, hl with | [_, _, _], _ => rfl) (by k_is) (by k_is) (by k_is) (by k_is)
    have t18 := Pe.fnK_mk (t := K02.f18) (st := K02.topS 22) KX G (fun _ _ _ _ _ _ us hl => match us, hl with | [_, _, _, _], _ => rfl) (by k_is) (by k_is) (by k_is) (by k_is)
    have t19 := Pe.fnK_mk (t := K02.f19) (st := K02.topS 23) KX G (fun _ _ _ _ _ _ us hl => match us, hl with | [_, _, _], _ => rfl) (by k_is) (by k_is) (by k_is) (by k_is)
    have t20 := Pe.fnK_mk (t := K02.f20) (st := K02.topS 24) KX G (fun _ _ _ _ _ _ us hl => match us, hl with | [_, _], _ => rfl) (by k_is) (by k_is) (by k_is) (by k_is)
    have t21 := Pe.fnK_mk (t := K02.f21) (st := K02.topS 25) KX G (fun _ _ _ _ _ _ us hl => match us, hl with | [_, _, _], _ => rfl) (by k_is) (by k_is) (by k_is) (by k_is)
    have t22 := Pe.fnK_mk (t := K02.f22) (st := K02.topS 26) KX G (fun _ _ _ _ _ _ us hl => match us, hl with | [_, _, _, _], _ => rfl) (by k_is) (by k_is) (by k_is) (by k_is)
    have t23 := Pe.fnK_mk (t := K02.f23) (st := K02.topS 27) KX G (fun _ _ _ _ _ _ us hl => match us, hl with | [_, _, _], _ => rfl) (by k_is) (by k_is) (by k_is) (by k_is)
    have t24 := Pe.fnK_mk (t := K02.f24) (st := K02.topS 28) KX G (fun _ _ _ _ _ _ us hl => match us, hl with | [_, _, _], _ => rfl) (by k_is) (by k_is) (by k_is) (by k_is)
    have t25 := Pe.fnK_mk (t := K02.f25) (st := K02.topS 29) KX G (fun _ _ _ _ _ _ us hl => match us, hl with | [_, _], _ => rfl) (by k_is) (by k_is) (by k_is) (by k_is)
    have t26 := Pe.fnK_mk (t := K02.f26) (st := K02.topS 30) KX G (fun _ _ _ _ _ _ us hl => match us, hl with | [_, _, _], _ => rfl) (by k_is) (by k_is) (by k_is) (by k_is)
    have t27 := Pe.fnK_mk (t := K02.f27) (st := K02.topS 31) KX G (fun _ _ _ _ _ _ us hl => match us, hl with | [_, _, _], _ => rfl) (by k_is) (by k_is) (by k_is) (by k_is)
    have t28 := Pe.fnK_mk (t := K02.f28) (st := K02.topS 32) KX G (fun _ _ _ _ _ _ us hl => match us, hl with | [_, _, _, _], _ => rfl) (by k_is) (by k_is) (by k_is) (by k_is)
    have t29 := Pe.fnK_mk (t := K02.f29) (st := K02.topS 33) KX G (fun _ _ _ _ _ _ us hl => match us, hl with | [_, _, _, _], _ => rfl) (by k_is) (by k_is) (by k_is) (by k_is)
    have t30 := Pe.fnK_mk (t := K02.f30) (st := K02.topS 34) KX G (fun _ _ _ _ _ _ us hl => match us, hl with | [_, _, _], _ => rfl) (by k_is) (by k_is) (by k_is) (by k_is)
    have t31 := Pe.fnK_mk (t := K02.f31) (st := K02.topS 35) KX G (fun _ _ _ _ _ _ us hl => match us, hl with | [_], _ => rfl) (by k_is) (by k_is) (by k_is) (by k_is)
    have T : Pe.Tab _ mg K02.FT K02.S := .cons t0 <| .cons t1 <| .cons t2 <| .cons t3 <| .cons t4 <| .cons t5 <| .cons t6 <| .cons t7 <| .cons t8 <| .cons t9 <| .cons t10 <| .cons t11 <| .cons t12 <| .cons t13 <| .cons t14 <| .cons t15 <| .cons t16 <| .cons t17 <| .cons t18 <| .cons t19 <| .cons t20 <| .cons t21 <| .cons t22 <| .cons t23 <| .cons t24 <| .cons t25 <| .cons t26 <| .cons t27 <| .cons t28 <| .cons t29 <| .cons t30 <| .cons t31 <| .nil
    refine Pe.tab_walk (t := K02.f31) hmg T K02.ck (Pe.bl_all (l := Pe.bltAll) KX G (by unfold Pe.bltAll; repeat (first | exact .nil | refine .cons (by k_is) ?_))) rfl rfl rfl fun _ _ _ _ _ _ st v e => ?_
    cases e
    rfl


