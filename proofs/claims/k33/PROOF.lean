import PyProof.Rows.All
import Wide.All
import OpenK.AllK
import Wide.FinOn
import HandS.SetFor
import HandS.Strs
import HandS.ForMost
import HandS.IsInst
import HandS.Deep
import HandS.Wide
import HandS.TupAny
import HandS.Style
import HandS.Conv
import HandS.SortInts
import HandS.More
import HandS.DictComp
import HandS.Iter
import HandS.SortKw
import KE.DataMinMax
import HandS.Zip
import KE.GoesEnum
import HandS.SetBool
import PySem.Challenge.RW_mapwalked_k33_ways_and_rings
set_option Elab.async false
set_option linter.all false
set_option maxRecDepth 100000
set_option maxHeartbeats 8000000
/-! Pe: set(list of whole numbers), its members told as SetR. -/
namespace Pe
open PySem PySem.Spec PyProof.Rows L2
section
variable {P : Program} {w : World} {A : Around} {E : Value → Shared → Prop} {s : Shared}
/-- an empty set, as set.__new__ makes it -/
abbrev emptySet (w : World) : Obj := { cls := .type "set", dict := none, data := .set #[] 0 (.fresh 0 0 (!w.params.followText "set-order")) }
/-- what the filled set keeps of the heap -/
def Filled (w : World) (s : Shared) (ns : List Int) (s2 : Shared) : Prop :=
  ∃ h' tk c, s2 = { s with heap := h', toks := tk } ∧ SetR w h' s.heap.objs.size (fun j => decide (j ∈ ns)) c ∧ c ≤ ns.length ∧ ∀ b o, s.heap.get? b = some o → h'.get? b = some o
set_option maxHeartbeats 3200000 in
theorem call_set_lstI {l : Addr} {items : Array Value} (ns : List Int) {Q : Value → Shared → Prop} (hh : A.handled = none) (hl : s.heap.IsList l items) (hit : IntsAre items.toList ns) (hb : ns.length + 1 < scanBound)
    (h : ∀ s2, Filled w s ns s2 → Q (.ref s.heap.objs.size) s2) : wpAny (model P w) A (call (.type "set") [.ref l]) Q E s := by
  have sz : items.size = ns.length := by rw [← Array.length_toList]; exact IntsAre.length hit
  obtain ⟨c, tl, hmro⟩ := F.called_set.mro
  have hmade := F.called_set.made
  have hsub := F.called_set.sub
  refine wpAny_call (codeAny_of_tree ?_)
  show wpAny _ _ (callAny (.type "set") _) _ _ _
  refine wpAny_pure ⟨Code.quiet_builtin _ (by decide +kernel), codeAny_builtin F.entry_type_call ?_⟩
  rw [Around.under_plain (weight_type_call_type "set" [.ref l] []) rfl]
  have h1 := F.called_set.notType
  have h2 := F.called_set.canCreate
  have hct := F.typeCall_set_1 (.ref l)
  repeat (any_goals (first | assumption | wp_step))
  refine codeAny_mono (code_set_led1 (.ref l) (E := E) (Q₁ := fun obj s₁ => obj = .ref s.heap.objs.size ∧ s₁ = { s with heap := s.heap.push (emptySet w) }) ⟨rfl, rfl⟩) fun r s₁ hr => ?_
  match r, hr with
  | .error e, hr => exact hr
  | .ok (.ret obj), ⟨eo, es⟩ =>
    subst eo es
    have new : (s.heap.push (emptySet w)).get? s.heap.objs.size = some (emptySet w) := Heap.get?_push_size _ rfl
    have ty : Shared.TypeIs { s with heap := s.heap.push (emptySet w) } (.ref s.heap.objs.size) "set" := ⟨_, new, rfl⟩
    have hli := F.called_set.init.lookup
    have hbi := F.called_set.init.bind (.ref s.heap.objs.size)
    repeat (any_goals (first | assumption | wp_step))
    refine codeAny_mono (codeAny_call_builtin (R := wants (fun r s₂ => r = .none ∧ Filled w s ns s₂) E) F.called_set.init.plain F.entry_set_init (check_set_init_1 ty ?_)) fun r₂ s₂ hr₂ => ?_
    · obtain ⟨⟨ocls, odict, odata, oslots⟩, hol, hcl, nl, hdl⟩ := hl
      simp only at hcl hdl
      subst hcl hdl
      have old : (s.heap.push (emptySet w)).get? l = some { cls := .type "list", dict := odict, data := .seq items nl, slots := oslots } := Heap.get?_push_of_some _ hol
      have hsls := F.sub_list_set
      have hslf := F.sub_list_frozenset
      have hne : (Value.type "list" == Value.type "dict") = false := by decide
      have isl : (s.heap.push (emptySet w)).IsList l items := ⟨_, old, rfl, nl, rfl⟩
      unfold Builtin.«set.__init__» noKeywords Builtin.Frozenset.updateFrom
      generalize hPI : pyIter = PI
      wp_walk
      subst hPI
      refine wpAny_pyIter_list isl ?_
      refine wpAny_bind (wpAny_runValue ?_)
      have lt : l < s.heap.objs.size := Heap.lt_size hol
      have hh3 : A.in1.in1.in1.handled = none := by simp [hh]
      have ps : (s.heap.push (emptySet w)).objs.size = s.heap.objs.size + 1 := Heap.size_push ..
      have neI : l ≠ (s.heap.push (emptySet w)).objs.size := by rw [ps]; exact Nat.ne_of_lt (Nat.lt_succ_of_lt lt)
      have nfp : s.heap.objs.size ∉ [(s.heap.push (emptySet w)).objs.size, l] := by
        rw [ps]
        simp only [List.mem_cons, List.not_mem_nil, or_false, not_or]
        exact ⟨Nat.ne_of_lt (Nat.lt_succ_self _), Nat.ne_of_gt lt⟩
      have val : ∀ (i : Nat) (v : Value), items[i]? = some v → ∃ k t, ns[i]? = some k ∧ v = .int k t := fun i v hv => by
        have hi : i < ns.length := by rw [← sz]; exact (Array.getElem?_eq_some_iff.mp hv).1
        obtain ⟨t, e⟩ := IntsAre.int_at hit i v (by rw [Array.getElem?_toList]; exact hv)
        refine ⟨ns[i], t, List.getElem?_eq_getElem hi, ?_⟩
        rw [e, List.getD_eq_getElem?_getD, List.getElem?_eq_getElem hi] <;> rfl
      refine set_update_ints ((Walks.list hh3 _ l neI items).toS) s.heap.objs.size nfp ns sz hb val (items.size - 0) 0 _ (by omega) (Nat.zero_le _)
        ⟨⟨_, Heap.get?_push_size _ rfl, rfl, rfl⟩, (isl.push _)⟩ ⟨0, Nat.le_refl 0, setR_new_at (Heap.get?_push_of_some _ new)⟩ fun s' c' hm hc' hS' => ?_
      obtain ⟨h', g2, d', tk', os'⟩ := s'
      have eg : g2 = s.gens := hm.gens
      have ed : d' = s.drawn := hm.drawn
      have eo : os' = s.os := hm.os
      subst eg ed eo
      show wpAny _ _ _ _ _ _
      refine wpAny_pure ?_
      show wpAny _ _ (ret Value.none) _ _ _
      rw [sz] at hc'
      refine wpAny_pure ⟨rfl, h', tk', c', rfl, hS', hc', fun b o e => ?_⟩
      have hb0 : b < s.heap.objs.size := Heap.lt_size e
      exact hm.heap b o (by
        simp only [List.mem_cons, List.not_mem_nil, or_false, not_or]
        exact ⟨Nat.ne_of_lt hb0, by rw [ps]; exact Nat.ne_of_lt (Nat.lt_succ_of_lt hb0)⟩) (Heap.get?_push_of_some _ (Heap.get?_push_of_some _ e))
    · match r₂, hr₂ with
      | .error e, hr₂ => exact hr₂
      | .ok (.ret r), ⟨er, hf⟩ =>
        subst er
        obtain ⟨h', tk, c', e, r1, r2, r3⟩ := id hf
        subst e
        repeat (any_goals (first | assumption | wp_step))
        exact h _ hf
/-- a set's number is the number of its members -/
theorem setR_card {h : Heap} {a : Addr} {ns ms : List Int} {c : Nat} (R : SetR w h a (fun j => decide (j ∈ ns)) c) (nd : ms.Nodup) (hm : ∀ k, k ∈ ms ↔ k ∈ ns) : c = ms.length := by
  obtain ⟨o, es, ep, t, _, _, _, _, nk, mem, _, _, hn, _⟩ := R
  have pm : (es.toList.map keyOf).Perm ms := (List.perm_ext_iff_of_nodup nk nd).mpr fun k => by
    rw [← mem k, decide_eq_true_iff, hm k]
  rw [← pm.length_eq, List.length_map, Array.length_toList, hn]
end
end Pe
/-! Pe: a small evaluator (own syntax by slots, own values), later shown sound over the hand layer. -/
namespace Pe
open PySem

/-- data that never changes -/
inductive D where
  | non | bl (b : Bool) | int (i : Int) | str (x : Str) | tup (xs : List D)
/-- values: data, a list that is held by nobody else, a list that nobody changes, a cell of the heap, a tuple that holds such, a range from 0, a dict that nobody changes -/
inductive PV where
  | d (x : D) | tl (xs : List PV) | fl (xs : List D) | ref (n : Nat) | mt (xs : List PV) | rg (n : Nat) | fd (es : List (Sum Int Str × D))
instance : Inhabited D := ⟨.non⟩
instance : Inhabited PV := ⟨.d .non⟩
inductive Cell where
  | lst (xs : List PV)
abbrev Hs := List Cell
abbrev Env := List (Option PV)
def M (α : Type) : Type := Hs → Option (α × Hs)
def M.ret {α : Type} (a : α) : M α := fun h => some (a, h)
def M.bnd {α β : Type} (m : M α) (f : α → M β) : M β := fun h => match m h with
  | some (a, h1) => f a h1
  | none => none
def M.no {α : Type} : M α := fun _ => none
def M.of {α : Type} : Option α → M α
  | some a => M.ret a
  | none => M.no

inductive BOp where
  | add | sub | mul | fdiv | mod | pow | shl | shr | band | bor | bxor
inductive UOp where
  | neg | inv
inductive COp where
  | eq | ne | lt | le | gt | ge | isN | notN | inn | nin
inductive Ty where
  | int | bool | str | tuple | list
  deriving DecidableEq
inductive Blt where
  | len | tuple | list | all | any | sum | int | abs | max | min | sorted | isi (ts : List Ty)
inductive Mth where
  | append | pop | reverse | extend | popAt | index
/-- targets -/
inductive T where
  | nm (i : Nat) | tup (ts : List T)
mutual
inductive E where
  | var (i : Nat)
  | cst (c : D)
  | bin (o : BOp) (a b : E)
  | un (o : UOp) (a : E)
  | nt (a : E)
  | an (a b : E)
  | orr (a b : E)
  | cmp (o : COp) (a b : E)
  | chn (o p : COp) (a b c : E)
  | ifx (c a b : E)
  | call (f : Nat) (as : List E)
  | blt (b : Blt) (as : List E)
  | mth (m : Mth) (o : E) (as : List E)
  | tup (as : List E)
  | lst (as : List E)
  | idx (a i : E)
  | slc (fl fh : Bool) (a lo hi : E)
  | rsl (a : E)
  | comp (own : List Nat) (tg : T) (it : It) (hc : Bool) (c : E) (elt : E)
  | join (o a : E)
  | lrg (t : Bool) (a : E)
  | rgv (a : E)
  | mxd (mx : Bool) (a : E)
  | sset (a : E)
  | lset (a : E)
  | dcomp (own : List Nat) (tg : T) (it : It) (hc : Bool) (c : E) (k v : E)
  | lsc (own : List Nat) (tg : T) (it : It) (hc : Bool) (c : E) (elt : E)
  | comp2 (own : List Nat) (tg : T) (it : It) (hc : Bool) (c : E) (own1 : List Nat) (tg1 : T) (it1 : It) (hc1 : Bool) (c1 : E) (elt : E)
inductive It where
  | seq (e : E) | enum (e : E) | zip (a b : E) | rng1 (a : E) | rng2 (a b : E) | rngd (a b : E)
end
inductive S where
  | asg (t : T) (e : E)
  | sub (o i e : E)
  | par (i j : Nat) (a b : E)
  | aug (i : Nat) (o : BOp) (e : E)
  | ex (e : E)
  | ret (e : E)
  | retn
  | ife (c : E) (a b : List S)
  | fr (t : T) (it : It) (b : List S)
  | wh (c : E) (b : List S)
  | brk | cnt | pas
inductive Fl where
  | nx (e : Env) | rt (v : PV) | bk (e : Env) | ct (e : Env)

/-! ### data -/
mutual
def D.py : D → PyData
  | .non => .none
  | .bl b => .bool b
  | .int i => .int i
  | .str x => .str x
  | .tup xs => .tuple (D.pys xs)
def D.pys : List D → List PyData
  | [] => []
  | x :: xs => D.py x :: D.pys xs
end
def allD : List PV → Option (List D)
  | [] => some []
  | .d x :: r => match allD r with
    | some xs => some (x :: xs)
    | none => none
  | _ :: _ => none
def mkTup (xs : List PV) : PV := match allD xs with
  | some ds => .d (.tup ds)
  | none => .mt xs
/-- .. of a list that may be written -/
def mutOf : PV → Hs → Option (List PV)
  | .tl xs, _ => some xs
  | .ref n, h => match h[n]? with
    | some (.lst xs) => some xs
    | none => none
  | _, _ => none
/-- a tuple's items -/
def tupOf : PV → Option (List PV)
  | .d (.tup ds) => some (ds.map .d)
  | .mt xs => some xs
  | _ => none
/-- a list's items -/
def lstOf : PV → Hs → Option (List PV)
  | .tl xs, _ => some xs
  | .fl ds, _ => some (ds.map .d)
  | .ref n, h => match h[n]? with
    | some (.lst xs) => some xs
    | none => none
  | _, _ => none
def seqOf (v : PV) (h : Hs) : Option (List PV) := match tupOf v with
  | some xs => some xs
  | none => lstOf v h
mutual
def toPyG (g : Nat → Option PyData) : PV → Option PyData
  | .d x => some x.py
  | .tl xs => match toPysG g xs with
    | some ys => some (.list ys)
    | none => none
  | .fl ds => some (.list (D.pys ds))
  | .mt xs => match toPysG g xs with
    | some ys => some (.tuple ys)
    | none => none
  | .ref n => g n
  | .rg _ => none
  | .fd _ => none
def toPysG (g : Nat → Option PyData) : List PV → Option (List PyData)
  | [] => some []
  | x :: xs => match toPyG g x, toPysG g xs with
    | some y, some ys => some (y :: ys)
    | _, _ => none
end
def pyR (h : Hs) : Nat → Nat → Option PyData
  | 0, _ => none
  | k + 1, n => match h[n]? with
    | some (.lst xs) => match toPysG (pyR h k) xs with
      | some ys => some (.list ys)
      | none => none
    | none => none
def toPy (h : Hs) (v : PV) : Option PyData := toPyG (pyR h 4) v
def eqPy (a b : PyData) : Option Bool := if SeqAt.shaped a && SeqAt.shaped b then some (PyData.eqv a b) else none
def eqV (x y : PV) (h : Hs) : Option Bool := match toPy h x, toPy h y with
  | some a, some b => eqPy a b
  | _, _ => none
def inV (x y : PV) (h : Hs) : Option Bool := match toPy h x, toPy h y with
  | some a, some (.list ds) => if SeqAt.shaped a && SeqAt.shaped (.list ds) then some (ds.any fun z => PyData.eqv z a) else none
  | some a, some (.tuple ds) => if SeqAt.shaped a && SeqAt.shaped (.tuple ds) then some (ds.any fun z => PyData.eqv z a) else none
  | _, _ => none

/-- keys of dicts -/
def keyD : D → Option (Sum Int Str)
  | .int i => some (.inl i)
  | .str s => some (.inr s)
  | _ => none
def dKey : Sum Int Str → D
  | .inl i => .int i
  | .inr s => .str s
def hasK (es : List (Sum Int Str × D)) (k : Sum Int Str) : Bool := es.any fun p => decide (p.1 = k)
def putD (es : List (Sum Int Str × D)) (k : Sum Int Str) (v : D) : List (Sum Int Str × D) :=
  if hasK es k then es.map fun p => if p.1 = k then (p.1, v) else p else es ++ [(k, v)]
/-! ### what a store makes of a value: cells -/
mutual
def conv : PV → Hs → PV × Hs
  | .d x, h => (.d x, h)
  | .fl x, h => (.fl x, h)
  | .ref n, h => (.ref n, h)
  | .rg n, h => (.rg n, h)
  | .fd es, h => (.fd es, h)
  | .tl xs, h => let r := convs xs h; (.ref r.2.length, r.2 ++ [.lst r.1])
  | .mt xs, h => let r := convs xs h; (.mt r.1, r.2)
def convs : List PV → Hs → List PV × Hs
  | [], h => ([], h)
  | x :: xs, h => let r := conv x h; let q := convs xs r.2; (r.1 :: q.1, q.2)
end
/-! ### operators -/
def repS (s : Str) (n : Nat) : Str := ⟨(List.replicate n s.cps).foldl (· ++ ·) #[]⟩
def maxI (n : Int) (ns : List Int) : Int := ns.foldl (fun a b => if a < b then b else a) n
def minI (n : Int) (ns : List Int) : Int := ns.foldl (fun a b => if b < a then b else a) n
def sortI (ns : List Int) : List Int := ns.mergeSort fun a b => decide (a ≤ b)
def strsOf : List PV → Option (List Str)
  | [] => some []
  | .d (.str b) :: r => match strsOf r with
    | some bs => some (b :: bs)
    | none => none
  | _ :: _ => none
def mulOk (i j : Int) : Bool := decide (i.natAbs < 2 ^ 64) || decide (j.natAbs < 2 ^ 64)
def binV (o : BOp) (x y : PV) : M PV := fun h => match o, x, y with
  | .add, .d (.int i), .d (.int j) => some (.d (.int (i + j)), h)
  | .sub, .d (.int i), .d (.int j) => some (.d (.int (i - j)), h)
  | .mul, .d (.int i), .d (.int j) => if mulOk i j then some (.d (.int (i * j)), h) else none
  | .mul, .d (.str s), .d (.int k) => if 2 ≤ k ∧ k ≤ 1000000 ∧ 0 < s.length ∧ s.length * k.toNat ≤ 1000000 then some (.d (.str (repS s k.toNat)), h) else none
  | .mul, .tl xs, .d (.int k) => match allD xs with
    | some ds => if 0 ≤ k ∧ k ≤ 1000000 ∧ xs.length * k.toNat ≤ 1000000 then some (.tl ((List.replicate k.toNat ds).flatten.map .d), h) else none
    | none => none
  | .fdiv, .d (.int i), .d (.int j) => if j ≠ 0 ∧ j.natAbs < 1073741824 then some (.d (.int (i.fdiv j)), h) else none
  | .mod, .d (.int i), .d (.int j) => if j ≠ 0 then some (.d (.int (i.fmod j)), h) else none
  | .pow, .d (.int i), .d (.int j) => if 0 ≤ j ∧ j ≤ 1000000 ∧ i.natAbs < 2 ^ 64 then some (.d (.int (i ^ j.toNat)), h) else none
  | .shl, .d (.int i), .d (.int j) => if 0 ≤ j ∧ j ≤ 1000000 ∧ i.natAbs < 2 ^ 64 then some (.d (.int (i * 2 ^ j.toNat)), h) else none
  | .shr, .d (.int i), .d (.int j) => if 0 ≤ j then some (.d (.int (i / 2 ^ j.toNat)), h) else none
  | .band, .d (.int i), .d (.int j) => some (.d (.int (Builtin.bitAnd i j)), h)
  | .bor, .d (.int i), .d (.int j) => some (.d (.int (Builtin.bitOr i j)), h)
  | .bxor, .d (.int i), .d (.int j) => some (.d (.int (Builtin.bitXor i j)), h)
  | .add, .d (.str a), .d (.str b) => if a.length + b.length ≤ sizeLine then some (.d (.str (a ++ b)), h) else none
  | .add, .d (.tup a), .d (.tup b) => if a.length + b.length ≤ sizeLine then some (.d (.tup (a ++ b)), h) else none
  | .add, x, y => match mutOf x h, mutOf y h with
    | some a, some b => if a.length + b.length ≤ sizeLine then some (.tl (a ++ b), h) else none
    | _, _ => none
  | _, _, _ => none
def augV (o : BOp) (x y : PV) : M PV := fun h => match o, x, y with
  | .add, .d (.int i), .d (.int j) => some (.d (.int (i + j)), h)
  | .sub, .d (.int i), .d (.int j) => some (.d (.int (i - j)), h)
  | _, _, _ => none
def unV (o : UOp) (x : PV) : M PV := fun h => match o, x with
  | .neg, .d (.int i) => some (.d (.int (-i)), h)
  | .inv, .d (.int i) => some (.d (.int (Builtin.bitNot i)), h)
  | _, _ => none
def cmpI (p : Int → Int → Bool) (x y : PV) : Option Bool := match x, y with
  | .d (.int i), .d (.int j) => some (p i j)
  | _, _ => none
def inW (x y : PV) (h : Hs) : Option Bool := match y with
  | .fd es => match x with
    | .d k => (keyD k).map fun k => hasK es k
    | _ => none
  | _ => inV x y h
def cmpV (o : COp) (x y : PV) : M Bool := fun h => match o with
  | .eq => (eqV x y h).map fun b => (b, h)
  | .ne => (eqV x y h).map fun b => (!b, h)
  | .lt => (cmpI (fun i j => decide (i < j)) x y).map fun b => (b, h)
  | .le => (cmpI (fun i j => decide (i ≤ j)) x y).map fun b => (b, h)
  | .gt => (cmpI (fun i j => decide (j < i)) x y).map fun b => (b, h)
  | .ge => (cmpI (fun i j => decide (j ≤ i)) x y).map fun b => (b, h)
  | .isN => match x, y with
    | .d .non, .d .non => some (true, h)
    | _, .d .non => some (false, h)
    | .d (.bl a), .d (.bl b) => some (decide (a = b), h)
    | _, _ => none
  | .notN => match x, y with
    | .d .non, .d .non => some (false, h)
    | _, .d .non => some (true, h)
    | .d (.bl a), .d (.bl b) => some (!decide (a = b), h)
    | _, _ => none
  | .inn => (inW x y h).map fun b => (b, h)
  | .nin => (inW x y h).map fun b => (!b, h)
def boolV (v : PV) : M Bool := fun h => match v with
  | .d (.bl b) => some (b, h)
  | _ => none
def intOf : PV → Option Int
  | .d (.int i) => some i
  | _ => none

def idxV (x i : PV) : M PV := fun h => match i with
  | .d (.int k) => match x with
    | .d (.str s) => if s.length ≤ sizeLine then (L2.atI s.cps.toList k).map fun c => (.d (.str ⟨#[c]⟩), h) else none
    | _ => match seqOf x h with
      | some xs => (L2.atI xs k).map fun v => (v, h)
      | none => none
  | _ => none
/-- a slice of items -/
def cutL {α : Type} (xs : List α) (lo hi : Option Int) : List α := (xs.drop (HT.sIx xs.length 0 lo)).take (HT.sIx xs.length xs.length hi - HT.sIx xs.length 0 lo)
def sliceV (x : PV) (lo hi : Option Int) : M PV := fun h => match x with
  | .d (.tup ds) => some (.d (.tup (cutL ds lo hi)), h)
  | _ => match lstOf x h with
    | some xs => some (.tl (cutL xs lo hi), h)
    | none => none
def optI (f : Bool) (v : PV) : Option (Option Int) := if f then (intOf v).map some else some none

def tyIs (h : Hs) : PV → Ty → Bool
  | .d (.bl _), .bool => true
  | .d (.bl _), .int => true
  | .d (.int _), .int => true
  | .d (.str _), .str => true
  | .d (.tup _), .tuple => true
  | .mt _, .tuple => true
  | .tl _, .list => true
  | .fl _, .list => true
  | .ref _, .list => true
  | _, _ => false
def isRg : PV → Bool
  | .rg _ => true
  | .fd _ => true
  | _ => false
def boolsOf : List PV → Option (List Bool)
  | [] => some []
  | .d (.bl b) :: r => match boolsOf r with
    | some bs => some (b :: bs)
    | none => none
  | _ :: _ => none
def intsOf : List PV → Option (List Int)
  | [] => some []
  | .d (.int b) :: r => match intsOf r with
    | some bs => some (b :: bs)
    | none => none
  | _ :: _ => none
def bltV (b : Blt) (as : List PV) : M PV := fun h => match b, as with
  | .len, [.d (.str s)] => if s.length ≤ sizeLine then some (.d (.int s.length), h) else none
  | .len, [x] => match seqOf x h with
    | some xs => some (.d (.int xs.length), h)
    | none => none
  | .tuple, [x] => match seqOf x h with
    | some xs => some (mkTup xs, h)
    | none => none
  | .list, [.fd es] => if es.length ≤ sizeLine then some (.tl (es.map fun p => .d (dKey p.1)), h) else none
  | .list, [x] => match seqOf x h with
    | some xs => some (.tl xs, h)
    | none => none
  | .all, [x] => match lstOf x h with
    | some xs => (boolsOf xs).map fun bs => (.d (.bl (bs.all id)), h)
    | none => none
  | .any, [x] => match lstOf x h with
    | some xs => (boolsOf xs).map fun bs => (.d (.bl (bs.any id)), h)
    | none => none
  | .sum, [x] => match lstOf x h with
    | some xs => (intsOf xs).map fun bs => (.d (.int bs.sum), h)
    | none => none
  | .int, [.d (.int i)] => some (.d (.int i), h)
  | .int, [.d (.bl b)] => some (.d (.int (if b then 1 else 0)), h)
  | .abs, [.d (.int i)] => some (.d (.int (if i < 0 then -i else i)), h)
  | .max, [.d (.int i), .d (.int j)] => some (.d (.int (if j > i then j else i)), h)
  | .max, [x] => match lstOf x h with
    | some xs => match intsOf xs with
      | some (n :: ns) => some (.d (.int (maxI n ns)), h)
      | _ => none
    | none => none
  | .min, [.d (.int i), .d (.int j)] => some (.d (.int (if j < i then j else i)), h)
  | .min, [x] => match lstOf x h with
    | some xs => match intsOf xs with
      | some (n :: ns) => some (.d (.int (minI n ns)), h)
      | _ => none
    | none => none
  | .sorted, [x] => match lstOf x h with
    | some xs => (intsOf xs).map fun ns => (.tl ((sortI ns).map fun i => .d (.int i)), h)
    | none => none
  | .isi ts, [x] => if isRg x then none else some (.d (.bl (ts.any fun t => tyIs h x t)), h)
  | _, _ => none
/-- what may be stored in the cell n, the frame's own cells beginning at fb -/
def storeOk (fb n : Nat) (v : PV) : Bool := match v with
  | .d _ => true
  | _ => decide (fb ≤ n)
def mthV (fb : Nat) (m : Mth) (o : PV) (as : List PV) : M PV := fun h => match m, o, as with
  | .append, .ref n, [v] => match conv v h with
    | (v', h1) => match h1[n]? with
      | some (.lst xs) => if storeOk fb n v' && decide (xs.length < sizeLine) then some (.d .non, h1.set n (.lst (xs ++ [v']))) else none
      | none => none
  | .pop, .ref n, [] => match h[n]? with
    | some (.lst xs) => match xs[xs.length - 1]? with
      | some v => some (v, h.set n (.lst xs.dropLast))
      | none => none
    | none => none
  | .reverse, .ref n, [] => match h[n]? with
    | some (.lst xs) => some (.d .non, h.set n (.lst xs.reverse))
    | none => none
  | .extend, .ref n, [v] => match mutOf v h, h[n]? with
    | some ys, some (.lst xs) => match allD ys with
      | some _ => if xs.length + ys.length ≤ sizeLine then some (.d .non, h.set n (.lst (xs ++ ys))) else none
      | none => none
    | _, _ => none
  | .popAt, .ref n, [.d (.int k)] => match h[n]? with
    | some (.lst xs) => match L2.ixN xs.length k with
      | some j => match xs[j]? with
        | some v => if -(2 ^ 63) ≤ k ∧ k < 2 ^ 63 then some (v, h.set n (.lst (xs.eraseIdx j))) else none
        | none => none
      | none => none
    | none => none
  | .index, .ref n, [y] => match toPy h (.ref n), toPy h y with
    | some (.list ds), some d => if SeqAt.shaped (.list ds) && SeqAt.shaped d then (match ds.findIdx? fun z => PyData.eqv z d with
      | some j => some (.d (.int (j : Nat)), h)
      | none => none) else none
    | _, _ => none
  | .index, .tl xs, [y] => match toPy h (.tl xs), toPy h y with
    | some (.list ds), some d => if SeqAt.shaped (.list ds) && SeqAt.shaped d then (match ds.findIdx? fun z => PyData.eqv z d with
      | some j => some (.d (.int (j : Nat)), h)
      | none => none) else none
    | _, _ => none
  | _, _, _ => none
/-- sep.join of a list or a tuple of texts -/
def joinV (s x : PV) : M PV := fun h => match s with
  | .d (.str a) => match seqOf x h with
    | some xs => match strsOf xs with
      | some ys => if (ys.map (·.length)).sum + ys.length * a.length ≤ 16777216 then some (.d (.str (Txt.join a ys)), h) else none
      | none => none
    | none => none
  | _ => none
/-- list(range(n)), tuple(range(n)) -/
def lrgV (t : Bool) (x : PV) : M PV := fun h => match x with
  | .d (.int j) => if -(2 ^ 62) ≤ j ∧ j ≤ 16777216 then some (if t then .d (.tup ((List.range j.toNat).map fun i => .int (i : Nat))) else .tl ((List.range j.toNat).map fun i => .d (.int (i : Nat))), h) else none
  | _ => none
def rgvV (x : PV) : M PV := fun h => match x with
  | .d (.int j) => if -(2 ^ 62) ≤ j ∧ j < 2 ^ 62 then some (.rg j.toNat, h) else none
  | _ => none
/-- max(xs, default=None), min(xs, default=None) -/
def bestI (mx : Bool) : List Int → D
  | [] => .non
  | n :: ns => .int (if mx then maxI n ns else minI n ns)
def mxdV (mx : Bool) (x : PV) : M PV := fun h => match lstOf x h with
  | some xs => (intsOf xs).map fun ns => (.d (bestI mx ns), h)
  | none => none
/-- sorted(set(t)), t a tuple or list of whole numbers -/
def insU (x : Int) : List Int → List Int
  | [] => [x]
  | y :: ys => if x < y then x :: y :: ys else if x = y then y :: ys else y :: insU x ys
def setI (ns : List Int) : List Int := ns.foldr insU []
def ssetV (x : PV) : M PV := fun h => match seqOf x h with
  | some xs => match intsOf xs with
    | some ns => if ns.length < 4000 ∧ (setI ns).length < 60 then some (.tl ((setI ns).map fun i => .d (.int i)), h) else none
    | none => none
  | none => none
def setV (fb : Nat) (o i v : PV) : M Unit := fun h => match o, i with
  | .ref n, .d (.int k) => match conv v h with
    | (v', h1) => match h1[n]? with
      | some (.lst xs) => match L2.ixN xs.length k with
        | some j => if storeOk fb n v' then some ((), h1.set n (.lst (xs.set j v'))) else none
        | none => none
      | none => none
  | _, _ => none

/-! ### walks -/
/-- what is walked: items that stay, or a cell -/
inductive Src where
  | imm (xs : List PV) | cell (n : Nat)
def srcOf0 (v : PV) : Option Src := match v with
  | .ref n => some (.cell n)
  | .tl xs => match allD xs with
    | some _ => some (.imm xs)
    | none => none
  | .fl ds => some (.imm (ds.map .d))
  | .d (.tup ds) => some (.imm (ds.map .d))
  | _ => none
def srcOf (v : PV) : M Src := fun h => match srcOf0 v with
  | some s => some (s, h)
  | none => match v with
    | .tl xs => some (.cell (convs xs h).2.length, (convs xs h).2 ++ [.lst (convs xs h).1])
    | .mt xs => some (.imm (convs xs h).1, (convs xs h).2)
    | _ => none
def Src.items (s : Src) (h : Hs) : Option (List PV) := match s with
  | .imm xs => some xs
  | .cell n => match h[n]? with
    | some (.lst xs) => some xs
    | none => none
inductive ItV where
  | seq (s : Src) | enum (s : Src) | zip (s t : Src) | rng (lo : Int) (n : Nat) | rngd (lo : Int) (n : Nat)
/-- what comes at the i-th turn -/
def ItV.at (it : ItV) (h : Hs) (i : Nat) : Option (Option PV) := match it with
  | .seq s => (s.items h).map fun xs => xs[i]?
  | .enum s => (s.items h).map fun xs => xs[i]?.map fun x => mkTup [.d (.int i), x]
  | .zip s t => match s.items h, t.items h with
    | some xs, some ys => some (match xs[i]?, ys[i]? with
      | some x, some y => some (mkTup [x, y])
      | _, _ => none)
    | _, _ => none
  | .rng lo n => some (if i < n then some (.d (.int (lo + i))) else none)
  | .rngd lo n => some (if i < n then some (.d (.int (lo - i))) else none)
def ItV.fuel (it : ItV) (h : Hs) : Nat := match it with
  | .seq s => ((s.items h).getD []).length
  | .enum s => ((s.items h).getD []).length
  | .zip s _ => ((s.items h).getD []).length
  | .rng _ n => n
  | .rngd _ n => n

mutual
def bindT : T → PV → Env → M Env
  | .nm i, v, env => fun h => if i < env.length then some (env.set i (some (conv v h).1), (conv v h).2) else none
  | .tup ts, v, env => match tupOf v with
    | some xs => bindTs ts xs env
    | none => M.no
def bindTs : List T → List PV → Env → M Env
  | [], [], env => M.ret env
  | t :: ts, x :: xs, env => M.bnd (bindT t x env) fun env' => bindTs ts xs env'
  | _, _, _ => M.no
end
def wipeE (env : Env) : List Nat → Env
  | [] => env
  | v :: vs => (wipeE env vs).set v none
/-- a comprehension's turns -/
def cloop (f : PV → M (Option PV)) (it : ItV) : Nat → Nat → List PV → M (List PV)
  | 0, i, acc => fun h => match it.at h i with
    | some none => some (acc, h)
    | _ => none
  | k + 1, i, acc => fun h => match it.at h i with
    | some none => some (acc, h)
    | some (some x) => match f x h with
      | some (some y, h1) => if acc.length < sizeLine then cloop f it k (i + 1) (acc ++ [y]) h1 else none
      | some (none, h1) => cloop f it k (i + 1) acc h1
      | none => none
    | none => none
/-- the different ones, each where it is met first -/
def met (ns : List Int) : List Int := ns.foldl (fun acc x => if x ∈ acc then acc else acc ++ [x]) []
/-- how many different whole numbers -/
def lenS (ys : List PV) : M PV := fun h => match intsOf ys with
  | some ns => if ns.length < 1000 then some (.d (.int (met ns).length), h) else none
  | none => none
/-- len(set(t)) -/
def lsetV (x : PV) : M PV := fun h => match seqOf x h with
  | some xs => lenS xs h
  | none => none
/-- turns that fill a cell -/
def uloop (f : PV → M Unit) (it : ItV) : Nat → Nat → M Unit
  | 0, i => fun h => match it.at h i with
    | some none => some ((), h)
    | _ => none
  | k + 1, i => fun h => match it.at h i with
    | some none => some ((), h)
    | some (some x) => match f x h with
      | some (_, h1) => uloop f it k (i + 1) h1
      | none => none
    | none => none
def pushC (n : Nat) (y : PV) : M Unit := fun h => match y with
  | .d d => match h[n]? with
    | some (.lst xs) => if xs.length < sizeLine then some ((), h.set n (.lst (xs ++ [.d d]))) else none
    | none => none
  | _ => none
/-- a dict comprehension's turns -/
def dloop (f : PV → M (Option (Sum Int Str × D))) (it : ItV) : Nat → Nat → List (Sum Int Str × D) → M (List (Sum Int Str × D))
  | 0, i, acc => fun h => match it.at h i with
    | some none => some (acc, h)
    | _ => none
  | k + 1, i, acc => fun h => match it.at h i with
    | some none => some (acc, h)
    | some (some x) => match f x h with
      | some (some y, h1) => if acc.length < sizeLine then dloop f it k (i + 1) (putD acc y.1 y.2) h1 else none
      | some (none, h1) => dloop f it k (i + 1) acc h1
      | none => none
    | none => none
/-- the pair of a dict's turn -/
def pairM (x y : PV) : M (Option (Sum Int Str × D)) := match x, y with
  | .d k, .d v => match keyD k with
    | some k => M.ret (some (k, v))
    | none => M.no
  | _, _ => M.no
def rngdV (lo hi : Int) : M ItV := fun h => if -(2 ^ 62) ≤ lo ∧ lo < 2 ^ 62 ∧ -(2 ^ 62) ≤ hi ∧ hi < 2 ^ 62 then some (.rngd lo (lo - hi).toNat, h) else none
def seqM (v : PV) : M ItV := match v with
  | .rg n => M.ret (.rng 0 n)
  | v => M.bnd (srcOf v) fun s => M.ret (.seq s)
def rngV (lo hi : Int) : M ItV := fun h => if -(2 ^ 62) ≤ lo ∧ lo < 2 ^ 62 ∧ -(2 ^ 62) ≤ hi ∧ hi < 2 ^ 62 then some (.rng lo (hi - lo).toNat, h) else none

section
variable (cf : Nat → List PV → M PV) (fb : Nat)
mutual
def evE : E → Env → M PV
  | .var i, env => M.of (match env[i]? with
    | some (some v) => some v
    | _ => none)
  | .cst c, _ => M.ret (.d c)
  | .bin o a b, env => M.bnd (evE a env) fun x => M.bnd (evE b env) fun y => binV o x y
  | .un o a, env => M.bnd (evE a env) fun x => unV o x
  | .nt a, env => M.bnd (evE a env) fun x => M.bnd (boolV x) fun b => M.ret (.d (.bl (!b)))
  | .an a b, env => M.bnd (evE a env) fun x => M.bnd (boolV x) fun c => if c then evE b env else M.ret (.d (.bl false))
  | .orr a b, env => M.bnd (evE a env) fun x => M.bnd (boolV x) fun c => if c then M.ret (.d (.bl true)) else evE b env
  | .cmp o a b, env => M.bnd (evE a env) fun x => M.bnd (evE b env) fun y => M.bnd (cmpV o x y) fun c => M.ret (.d (.bl c))
  | .chn o p a b c, env => M.bnd (evE a env) fun x => M.bnd (evE b env) fun y => M.bnd (cmpV o x y) fun k =>
      if k then M.bnd (evE c env) fun z => M.bnd (cmpV p y z) fun l => M.ret (.d (.bl l)) else M.ret (.d (.bl false))
  | .ifx c a b, env => M.bnd (evE c env) fun x => M.bnd (boolV x) fun k => if k then evE a env else evE b env
  | .call f as, env => M.bnd (evEs as env) fun xs => cf f xs
  | .blt b as, env => M.bnd (evEs as env) fun xs => bltV b xs
  | .mth m o as, env => M.bnd (evE o env) fun x => M.bnd (evEs as env) fun xs => mthV fb m x xs
  | .tup as, env => M.bnd (evEs as env) fun xs => if xs.length ≤ sizeLine then M.ret (mkTup xs) else M.no
  | .lst as, env => M.bnd (evEs as env) fun xs => if xs.length ≤ sizeLine then M.ret (.tl xs) else M.no
  | .idx a i, env => M.bnd (evE a env) fun x => M.bnd (evE i env) fun y => idxV x y
  | .slc f1 f2 a lo hi, env => M.bnd (evE a env) fun x => M.bnd (if f1 then evE lo env else M.ret (.d .non)) fun l => M.bnd (if f2 then evE hi env else M.ret (.d .non)) fun u =>
      match optI f1 l, optI f2 u with
      | some l, some u => sliceV x l u
      | _, _ => M.no
  | .join o a, env => M.bnd (evE o env) fun x => M.bnd (evE a env) fun y => joinV x y
  | .lrg t a, env => M.bnd (evE a env) fun x => lrgV t x
  | .rgv a, env => M.bnd (evE a env) fun x => rgvV x
  | .mxd mx a, env => M.bnd (evE a env) fun x => mxdV mx x
  | .sset a, env => M.bnd (evE a env) fun x => ssetV x
  | .lset a, env => M.bnd (evE a env) fun x => lsetV x
  | .rsl a, env => M.bnd (evE a env) fun x => fun h => match lstOf x h with
    | some xs => some (.tl xs.reverse, h)
    | none => none
  | .comp own tg it hc c elt, env => M.bnd (evIt it env) fun iv => fun h =>
      match cloop (fun x => M.bnd (bindT tg x (wipeE env own)) fun env1 => M.bnd (if hc then M.bnd (evE c env1) boolV else M.ret true) fun k => if k then M.bnd (evE elt env1) fun y => M.ret (some y) else M.ret none) iv (iv.fuel h) 0 [] h with
      | some (ys, h1) => some (.tl ys, h1)
      | none => none
  | .dcomp own tg it hc c k v, env => M.bnd (evIt it env) fun iv => fun h =>
      match dloop (fun x => M.bnd (bindT tg x (wipeE env own)) fun env1 => M.bnd (if hc then M.bnd (evE c env1) boolV else M.ret true) fun b => if b then M.bnd (evE k env1) fun y => M.bnd (evE v env1) fun z => pairM y z else M.ret none) iv (iv.fuel h) 0 [] h with
      | some (es, h1) => some (.fd es, h1)
      | none => none
  | .lsc own tg it hc c elt, env => M.bnd (evIt it env) fun iv => fun h =>
      match cloop (fun x => M.bnd (bindT tg x (wipeE env own)) fun env1 => M.bnd (if hc then M.bnd (evE c env1) boolV else M.ret true) fun k => if k then M.bnd (evE elt env1) fun y => M.ret (some y) else M.ret none) iv (iv.fuel h) 0 [] h with
      | some (ys, h1) => lenS ys h1
      | none => none
  | .comp2 own tg it hc c own1 tg1 it1 hc1 c1 elt, env => M.bnd (evIt it env) fun iv => fun h =>
      match uloop (fun x => M.bnd (bindT tg x (wipeE env own)) fun env1 => M.bnd (if hc then M.bnd (evE c env1) boolV else M.ret true) fun k =>
        if k then M.bnd (evIt it1 env1) fun iv1 => fun h1 => uloop (fun y => M.bnd (bindT tg1 y (wipeE env1 own1)) fun env2 => M.bnd (if hc1 then M.bnd (evE c1 env2) boolV else M.ret true) fun k1 =>
          if k1 then M.bnd (evE elt env2) fun z => pushC h.length z else M.ret ()) iv1 (iv1.fuel h1) 0 h1 else M.ret ()) iv (iv.fuel h) 0 (h ++ [.lst []]) with
      | some (_, h1) => some (.ref h.length, h1)
      | none => none
def evEs : List E → Env → M (List PV)
  | [], _ => M.ret []
  | e :: es, env => M.bnd (evE e env) fun x => M.bnd (evEs es env) fun xs => M.ret (x :: xs)
def evIt : It → Env → M ItV
  | .seq e, env => M.bnd (evE e env) fun v => seqM v
  | .enum e, env => M.bnd (evE e env) fun v => M.bnd (srcOf v) fun s => M.ret (.enum s)
  | .zip a b, env => M.bnd (evE a env) fun v => M.bnd (evE b env) fun w => if (tupOf v).isSome == (tupOf w).isSome then M.bnd (M.of (srcOf0 v)) fun s => M.bnd (M.of (srcOf0 w)) fun t => M.ret (.zip s t) else M.no
  | .rng1 a, env => M.bnd (evE a env) fun v => match v with
    | .d (.int j) => rngV 0 j
    | _ => M.no
  | .rng2 a b, env => M.bnd (evE a env) fun v => M.bnd (evE b env) fun w => match v, w with
    | .d (.int i), .d (.int j) => rngV i j
    | _, _ => M.no
  | .rngd a b, env => M.bnd (evE a env) fun v => M.bnd (evE b env) fun w => match v, w with
    | .d (.int i), .d (.int j) => rngdV i j
    | _, _ => M.no
end
/-- a for's turns -/
def floop (tg : T) (body : Env → M Fl) (it : ItV) : Nat → Nat → Env → M Fl
  | 0, i, env => fun h => match it.at h i with
    | some none => some (.nx env, h)
    | _ => none
  | k + 1, i, env => fun h => match it.at h i with
    | some none => some (.nx env, h)
    | some (some x) => match M.bnd (bindT tg x env) body h with
      | some (.nx e, h1) => floop tg body it k (i + 1) e h1
      | some (.ct e, h1) => floop tg body it k (i + 1) e h1
      | some (.bk e, h1) => some (.nx e, h1)
      | some (.rt v, h1) => some (.rt v, h1)
      | none => none
    | none => none
/-- a while's turns -/
def wloop (c : Env → M Bool) (body : Env → M Fl) : Nat → Env → M Fl
  | 0, _ => M.no
  | k + 1, env => M.bnd (c env) fun b => if b then M.bnd (body env) fun f => match f with
      | .nx e => wloop c body k e
      | .ct e => wloop c body k e
      | .bk e => M.ret (.nx e)
      | .rt v => M.ret (.rt v)
    else M.ret (.nx env)
def WF : Nat := 100000000
mutual
def evS : S → Env → M Fl
  | .asg t e, env => M.bnd (evE cf fb e env) fun v => M.bnd (bindT t v env) fun env' => M.ret (.nx env')
  | .sub o i e, env => M.bnd (evE cf fb e env) fun v => M.bnd (evE cf fb o env) fun x => M.bnd (evE cf fb i env) fun y => M.bnd (setV fb x y v) fun _ => M.ret (.nx env)
  | .par i j a b, env => M.bnd (evE cf fb a env) fun x => M.bnd (evE cf fb b env) fun y => M.bnd (bindT (.nm j) y env) fun e1 => M.bnd (bindT (.nm i) x e1) fun e2 => M.ret (.nx e2)
  | .aug i o e, env => M.bnd (evE cf fb (.var i) env) fun x => M.bnd (evE cf fb e env) fun y => M.bnd (augV o x y) fun z => M.bnd (bindT (.nm i) z env) fun e1 => M.ret (.nx e1)
  | .ex e, env => M.bnd (evE cf fb e env) fun _ => M.ret (.nx env)
  | .ret e, env => M.bnd (evE cf fb e env) fun v => M.ret (.rt v)
  | .retn, _ => M.ret (.rt (.d .non))
  | .ife c a b, env => M.bnd (evE cf fb c env) fun x => M.bnd (boolV x) fun k => if k then evSs a env else evSs b env
  | .fr t it b, env => M.bnd (evIt cf fb it env) fun iv => fun h => floop t (evSs b) iv (iv.fuel h) 0 env h
  | .wh c b, env => wloop (fun e => M.bnd (evE cf fb c e) boolV) (evSs b) WF env
  | .brk, env => M.ret (.bk env)
  | .cnt, env => M.ret (.ct env)
  | .pas, env => M.ret (.nx env)
def evSs : List S → Env → M Fl
  | [], env => M.ret (.nx env)
  | s :: r, env => M.bnd (evS s env) fun f => match f with
    | .nx e => evSs r e
    | f => M.ret f
end
end

/-! ### calls -/
mutual
def mapRef (g : Nat → Option (PV × List Nat)) : PV → Option (PV × List Nat)
  | .d x => some (.d x, [])
  | .fl x => some (.fl x, [])
  | .rg n => some (.rg n, [])
  | .fd es => some (.fd es, [])
  | .tl xs => match mapRefs g xs with
    | some (ys, l) => some (.tl ys, l)
    | none => none
  | .mt xs => match mapRefs g xs with
    | some (ys, l) => some (.mt ys, l)
    | none => none
  | .ref n => g n
def mapRefs (g : Nat → Option (PV × List Nat)) : List PV → Option (List PV × List Nat)
  | [] => some ([], [])
  | x :: xs => match mapRef g x, mapRefs g xs with
    | some (y, l), some (ys, l2) => some (y :: ys, l ++ l2)
    | _, _ => none
end
def resR (fb : Nat) (h : Hs) : Nat → Nat → Option (PV × List Nat)
  | 0, n => if n < fb then some (.ref n, []) else none
  | k + 1, n => if n < fb then some (.ref n, []) else match h[n]? with
    | some (.lst xs) => match mapRefs (resR fb h k) xs with
      | some (ys, l) => some (.tl ys, n :: l)
      | none => none
    | none => none
def leave (fb : Nat) (v : PV) (h : Hs) : Option (PV × Hs) := match mapRef (resR fb h 4) v with
  | some (v', used) => if used.Nodup then some (v', h.take fb) else none
  | none => none
structure Fn where
  name : Str
  N : List Str
  np : Nat
  body : List S
def call (FT : List Fn) : Nat → Nat → List PV → M PV
  | 0, _, _ => M.no
  | d + 1, f, args => fun h => match FT[f]? with
    | none => none
    | some t => if args.length = t.np then
        match evSs (call FT d) h.length t.body ((convs args h).1.map some ++ List.replicate (t.N.length - t.np) none) (convs args h).2 with
        | some (.rt v, h2) => leave h.length v h2
        | some (.nx _, h2) => leave h.length (.d .non) h2
        | _ => none
      else none
end Pe
/-! Pe: how the evaluator's values and cells lie in the abstract heap of the hand layer. -/
namespace Pe
open PySem PySem.Spec PyProof.Rows L2

mutual
inductive DR (K : PySem.W.Frag) (H : Hp) : D → V → Prop
  | non : DR K H .non .non
  | bl (b : Bool) : DR K H (.bl b) (.bl b)
  | int (i : Int) : DR K H (.int i) (.int i)
  | str (x : Str) : DR K H (.str x) (.str x)
  | tup {a : Addr} {vs : List V} {ds : List D} (h : SqT K H a vs) (z : ds.length ≤ sizeLine) (r : DRs K H ds vs) : DR K H (.tup ds) (.ref a)
inductive DRs (K : PySem.W.Frag) (H : Hp) : List D → List V → Prop
  | nil : DRs K H [] []
  | cons {x : D} {v : V} {xs : List D} {vs : List V} (h : DR K H x v) (t : DRs K H xs vs) : DRs K H (x :: xs) (v :: vs)
end
/-- a dict's entries -/
inductive FDs (K : PySem.W.Frag) (H : Hp) : List (Sum Int Str × D) → List (Key × V) → Prop
  | nil : FDs K H [] []
  | cons {k : Sum Int Str} {x : D} {v : V} {xs : List (Sum Int Str × D)} {vs : List (Key × V)} (h : DR K H x v) (t : FDs K H xs vs) : FDs K H ((k, x) :: xs) ((k, v) :: vs)
/-- a list of numbers that nobody writes: the script -/
def FzL (K : PySem.W.Frag) (H : Hp) (a : Addr) (vs : List V) : Prop :=
  (∃ o, H a = some (.frz o (.lst vs))) ∨
    ∃ (o : Obj) (its : Array Value) (n : Nat), K.lookup a = some o ∧ o.cls = .type "list" ∧ o.dict = none ∧ o.data = .seq its n ∧ its.size ≤ sizeLine ∧ Vals vs its.toList
theorem FzL.keep' {K : PySem.W.Frag} {H H' : Hp} {a : Addr} {vs : List V} (h : FzL K H a vs) (k : ∀ o u, H a = some (.frz o u) → H' a = some (.frz o u)) : FzL K H' a vs := h.elim (fun ⟨o, e⟩ => .inl ⟨o, k _ _ e⟩) .inr
theorem FzL.sql {K : PySem.W.Frag} {H : Hp} {a : Addr} {vs : List V} (h : FzL K H a vs) : SqL K H a vs := h.elim (fun ⟨o, e⟩ => .inl (.inr ⟨o, e⟩)) .inr
mutual
inductive PR (K : PySem.W.Frag) (α : List Addr) (H : Hp) : PV → V → List Addr → Prop
  | d {x : D} {v : V} (h : DR K H x v) : PR K α H (.d x) v []
  | tl {a : Addr} {vs : List V} {xs : List PV} {L : List Addr} (h : H a = some (.lst vs)) (z : xs.length ≤ sizeLine) (r : PRs K α H xs vs L) : PR K α H (.tl xs) (.ref a) (a :: L)
  | fl {a : Addr} {vs : List V} {ds : List D} (h : FzL K H a vs) (z : ds.length ≤ sizeLine) (r : DRs K H ds vs) : PR K α H (.fl ds) (.ref a) []
  | ref {n : Nat} {a : Addr} (h : α[n]? = some a) : PR K α H (.ref n) (.ref a) []
  | fd {es : List (Sum Int Str × D)} {a : Addr} {kvs : List (Key × V)} {o : Obj} (h : H a = some (.frz o (.dK kvs))) (r : FDs K H es kvs) : PR K α H (.fd es) (.ref a) []
  | rg {n : Nat} {a : Addr} {hi : Int} (h : H a = some (.rng 0 hi)) (b : -(2 ^ 62) ≤ hi ∧ hi < 2 ^ 62) (e : n = hi.toNat) : PR K α H (.rg n) (.ref a) []
  | mt {a : Addr} {vs : List V} {xs : List PV} {L : List Addr} (h : SqT K H a vs) (z : xs.length ≤ sizeLine) (r : PRs K α H xs vs L) : PR K α H (.mt xs) (.ref a) L
inductive PRs (K : PySem.W.Frag) (α : List Addr) (H : Hp) : List PV → List V → List Addr → Prop
  | nil : PRs K α H [] [] []
  | cons {x : PV} {v : V} {xs : List PV} {vs : List V} {L M : List Addr} (h : PR K α H x v L) (t : PRs K α H xs vs M) : PRs K α H (x :: xs) (v :: vs) (L ++ M)
end

/-- what a cell's address holds -/
def isCellO : HO → Prop
  | .lst _ => True
  | .dK _ => True
  | .dT _ => True
  | .set _ _ => True
  | .ext _ => True
  | _ => False
/-- from H to H' all but the cells at S is kept -/
structure Kept (S : Addr → Prop) (H H' : Hp) : Prop where
  cell : ∀ a, S a → ∃ o, H a = some o ∧ isCellO o
  keep : ∀ b o, H b = some o → ¬ S b → H' b = some o
section
variable {K : PySem.W.Frag} {α β : List Addr} {H H' : Hp} {S : Addr → Prop}
theorem Kept.sqt (k : Kept S H H') {a : Addr} {vs : List V} (h : SqT K H a vs) : SqT K H' a vs := by
  have no : ∀ o, H a = some o → ¬ isCellO o → ¬ S a := fun o e n z => by
    obtain ⟨u, e2, c⟩ := k.cell a z
    rw [e] at e2
    cases e2
    exact n c
  rcases h with (h | ⟨o, h⟩) | h
  · exact .inl (.inl (k.keep _ _ h (no _ h (fun z => z))))
  · exact .inl (.inr ⟨o, k.keep _ _ h (no _ h (fun z => z))⟩)
  · exact .inr h
theorem Kept.frz (k : Kept S H H') {a : Addr} {o : Obj} {u : HO} (h : H a = some (.frz o u)) : H' a = some (.frz o u) :=
  k.keep _ _ h fun z => by
    obtain ⟨w, e2, c⟩ := k.cell a z
    rw [h] at e2
    cases e2
    exact c
theorem Kept.rng (k : Kept S H H') {a : Addr} {lo hi : Int} (h : H a = some (.rng lo hi)) : H' a = some (.rng lo hi) :=
  k.keep _ _ h fun z => by
    obtain ⟨w, e2, c⟩ := k.cell a z
    rw [h] at e2
    cases e2
    exact c
mutual
theorem DR.keep (k : Kept S H H') : ∀ (x : D) (v : V), DR K H x v → DR K H' x v
  | .non, _, h => by cases h; exact .non
  | .bl b, _, h => by cases h; exact .bl b
  | .int i, _, h => by cases h; exact .int i
  | .str s, _, h => by cases h; exact .str s
  | .tup ds, _, h => by cases h with | tup h z r => exact .tup (k.sqt h) z (DRs.keep k ds _ r)
theorem DRs.keep (k : Kept S H H') : ∀ (xs : List D) (vs : List V), DRs K H xs vs → DRs K H' xs vs
  | [], _, h => by cases h; exact .nil
  | x :: xs, _, h => by cases h with | cons h t => exact .cons (DR.keep k x _ h) (DRs.keep k xs _ t)
end
theorem FDs.keep (k : Kept S H H') : ∀ {xs : List (Sum Int Str × D)} {vs : List (Key × V)}, FDs K H xs vs → FDs K H' xs vs
  | _, _, .nil => .nil
  | _, _, .cons h t => .cons (DR.keep k _ _ h) (FDs.keep k t)
mutual
theorem PR.keep (k : Kept S H H') (p : ∀ (n : Nat) a, α[n]? = some a → β[n]? = some a) : ∀ (x : PV) (v : V) (L : List Addr), PR K α H x v L → (∀ a ∈ L, ¬ S a) → PR K β H' x v L
  | .d x, _, _, h, _ => by cases h with | d h => exact .d (DR.keep k x _ h)
  | .tl xs, _, _, h, hL => by
    cases h with
    | tl h z r => exact .tl (k.keep _ _ h (hL _ List.mem_cons_self)) z (PRs.keep k p xs _ _ r fun a ha => hL a (List.mem_cons_of_mem _ ha))
  | .fl ds, _, _, h, _ => by cases h with | fl h z r => exact .fl (h.elim (fun ⟨o, e⟩ => .inl ⟨o, k.frz e⟩) .inr) z (DRs.keep k ds _ r)
  | .ref n, _, _, h, _ => by cases h with | ref h => exact .ref (p _ _ h)
  | .rg n, _, _, h, _ => by cases h with | rg h b e => exact .rg (k.rng h) b e
  | .fd es, _, _, h, _ => by cases h with | fd h r => exact .fd (k.frz h) (r.keep k)
  | .mt xs, _, _, h, hL => by cases h with | mt h z r => exact .mt (k.sqt h) z (PRs.keep k p xs _ _ r hL)
theorem PRs.keep (k : Kept S H H') (p : ∀ (n : Nat) a, α[n]? = some a → β[n]? = some a) : ∀ (xs : List PV) (vs : List V) (L : List Addr), PRs K α H xs vs L → (∀ a ∈ L, ¬ S a) → PRs K β H' xs vs L
  | [], _, _, h, _ => by cases h; exact .nil
  | x :: xs, _, _, h, hL => by
    cases h with
    | cons h t => exact .cons (PR.keep k p x _ _ h fun a ha => hL a (List.mem_append_left _ ha)) (PRs.keep k p xs _ _ t fun a ha => hL a (List.mem_append_right _ ha))
end
mutual
theorem PR.own : ∀ (x : PV) (v : V) (L : List Addr), PR K α H x v L → ∀ a ∈ L, ∃ vs, H a = some (.lst vs)
  | .d x, _, _, h, a, ha => by cases h with | d h => cases ha
  | .tl xs, _, _, h, a, ha => by
    cases h with
    | tl h z r =>
      rcases List.mem_cons.mp ha with e | ha
      · rw [e]; exact ⟨_, h⟩
      · exact PRs.own xs _ _ r a ha
  | .fl ds, _, _, h, a, ha => by cases h with | fl h z r => cases ha
  | .ref n, _, _, h, a, ha => by cases h with | ref h => cases ha
  | .rg n, _, _, h, a, ha => by cases h with | rg h => cases ha
  | .fd n, _, _, h, a, ha => by cases h with | fd h => cases ha
  | .mt xs, _, _, h, a, ha => by cases h with | mt h z r => exact PRs.own xs _ _ r a ha
theorem PRs.own : ∀ (xs : List PV) (vs : List V) (L : List Addr), PRs K α H xs vs L → ∀ a ∈ L, ∃ vs, H a = some (.lst vs)
  | [], _, _, h, a, ha => by cases h; cases ha
  | x :: xs, _, _, h, a, ha => by
    cases h with
    | cons h t =>
      rcases List.mem_append.mp ha with ha | ha
      · exact PR.own x _ _ h a ha
      · exact PRs.own xs _ _ t a ha
end
theorem DRs.length : ∀ {xs : List D} {vs : List V}, DRs K H xs vs → xs.length = vs.length
  | [], _, h => by cases h; rfl
  | x :: xs, _, h => by cases h with | cons h t => rw [List.length_cons, List.length_cons, DRs.length t]
theorem PRs.length : ∀ {xs : List PV} {vs : List V} {L : List Addr}, PRs K α H xs vs L → xs.length = vs.length
  | [], _, _, h => by cases h; rfl
  | x :: xs, _, _, h => by cases h with | cons h t => rw [List.length_cons, List.length_cons, PRs.length t]
theorem PRs.append : ∀ {xs : List PV} {vs : List V} {L : List Addr} {ys : List PV} {ws : List V} {M : List Addr}, PRs K α H xs vs L → PRs K α H ys ws M → PRs K α H (xs ++ ys) (vs ++ ws) (L ++ M)
  | [], _, _, _, _, _, h, t => by cases h; exact t
  | x :: xs, _, _, _, _, _, h, t => by
    cases h with
    | cons h r => rw [List.append_assoc]; exact .cons h (PRs.append r t)
theorem PRs.of_ds : ∀ {ds : List D} {vs : List V}, DRs K H ds vs → PRs K α H (ds.map .d) vs []
  | [], _, h => by cases h; exact .nil
  | x :: xs, _, h => by cases h with | cons h t => exact .cons (L := []) (.d h) (PRs.of_ds t)
theorem allD_map (ds : List D) : allD (ds.map .d) = some ds := by
  induction ds with
  | nil => rfl
  | cons x r ih => simp only [List.map_cons, allD, ih]
theorem allD_some : ∀ {xs : List PV} {ds : List D}, allD xs = some ds → xs = ds.map .d
  | [], ds, h => by simp only [allD] at h; cases h; rfl
  | x :: xs, ds, h => by
    cases x with
    | d x =>
      simp only [allD] at h
      cases e : allD xs with
      | none => rw [e] at h; cases h
      | some r => rw [e] at h; cases h; rw [allD_some e]; rfl
    | tl _ => cases h
    | fl _ => cases h
    | ref _ => cases h
    | mt _ => cases h
    | rg _ => cases h
    | fd _ => cases h
theorem PRs.to_ds : ∀ {ds : List D} {vs : List V} {L : List Addr}, PRs K α H (ds.map .d) vs L → DRs K H ds vs ∧ L = []
  | [], _, _, h => by cases h; exact ⟨.nil, rfl⟩
  | x :: xs, _, _, h => by
    cases h with
    | cons h t =>
      cases h with
      | d h =>
        obtain ⟨r, e⟩ := PRs.to_ds t
        subst e
        exact ⟨.cons h r, rfl⟩
/-- the i-th item; what it owns is part of the whole -/
theorem PRs.get : ∀ {xs : List PV} {vs : List V} {L : List Addr} {i : Nat} {x : PV}, PRs K α H xs vs L → xs[i]? = some x → ∃ v M, vs[i]? = some v ∧ PR K α H x v M ∧ M.Sublist L
  | [], _, _, _, _, h, e => by simp at e
  | y :: ys, _, _, 0, x, h, e => by
    cases h with
    | cons h t =>
      simp at e
      subst e
      exact ⟨_, _, rfl, h, List.sublist_append_left _ _⟩
  | y :: ys, _, _, i + 1, x, h, e => by
    cases h with
    | cons h t =>
      obtain ⟨v, M, e2, r, s⟩ := PRs.get (i := i) t (by simpa using e)
      exact ⟨v, M, by simpa using e2, r, s.trans (List.sublist_append_right _ _)⟩
theorem PRs.none {xs : List PV} {vs : List V} {L : List Addr} {i : Nat} (h : PRs K α H xs vs L) (e : xs[i]? = .none) : vs.length ≤ i := by
  rw [← h.length]
  exact List.getElem?_eq_none_iff.mp e
theorem PRs.take : ∀ {xs : List PV} {vs : List V} {L : List Addr} (n : Nat), PRs K α H xs vs L → ∃ M, PRs K α H (xs.take n) (vs.take n) M ∧ M.Sublist L
  | _, _, L, 0, h => ⟨[], by simpa using PRs.nil, List.nil_sublist _⟩
  | [], _, _, n + 1, h => by cases h; exact ⟨[], .nil, List.Sublist.refl _⟩
  | x :: xs, _, _, n + 1, h => by
    cases h with
    | cons h t =>
      obtain ⟨M, r, s⟩ := PRs.take n t
      exact ⟨_, .cons h r, List.Sublist.append (List.Sublist.refl _) s⟩
theorem PRs.drop : ∀ {xs : List PV} {vs : List V} {L : List Addr} (n : Nat), PRs K α H xs vs L → ∃ M, PRs K α H (xs.drop n) (vs.drop n) M ∧ M.Sublist L
  | xs, vs, L, 0, h => ⟨L, by simpa using h, List.Sublist.refl _⟩
  | [], _, _, n + 1, h => by cases h; exact ⟨[], .nil, List.Sublist.refl _⟩
  | x :: xs, _, _, n + 1, h => by
    cases h with
    | cons h t =>
      obtain ⟨M, r, s⟩ := PRs.drop n t
      exact ⟨M, r, s.trans (List.sublist_append_right _ _)⟩
theorem PRs.uncons {x : PV} {xs : List PV} {vs : List V} {L : List Addr} (h : PRs K α H (x :: xs) vs L) : ∃ v ws M N, vs = v :: ws ∧ L = M ++ N ∧ PR K α H x v M ∧ PRs K α H xs ws N := by
  cases h with
  | cons h t => exact ⟨_, _, _, _, rfl, rfl, h, t⟩
theorem PRs.uncons0 {x : PV} {xs : List PV} {vs : List V} (h : PRs K α H (x :: xs) vs []) : ∃ v ws, vs = v :: ws ∧ PR K α H x v [] ∧ PRs K α H xs ws [] := by
  obtain ⟨v, ws, M, N, e, eL, r, t⟩ := h.uncons
  obtain ⟨e1, e2⟩ := List.append_eq_nil_iff.mp eL.symm
  subst e1 e2
  exact ⟨v, ws, e, r, t⟩
theorem PRs.set : ∀ {xs : List PV} {vs : List V} {x : PV} {v : V} (i : Nat), PRs K α H xs vs [] → PR K α H x v [] → PRs K α H (xs.set i x) (vs.set i v) []
  | [], _, _, _, i, h, r => by cases h; exact .nil
  | y :: ys, _, _, _, 0, h, r => by
    obtain ⟨_, _, rfl, _, t⟩ := h.uncons0
    exact .cons (L := []) r t
  | y :: ys, _, _, _, i + 1, h, r => by
    obtain ⟨_, _, rfl, q, t⟩ := h.uncons0
    exact .cons (L := []) q (PRs.set i t r)
theorem PRs.reverse : ∀ {xs : List PV} {vs : List V} {L : List Addr}, PRs K α H xs vs L → ∃ M, PRs K α H xs.reverse vs.reverse M ∧ M.Perm L
  | [], _, _, h => by cases h; exact ⟨[], .nil, List.Perm.refl _⟩
  | x :: xs, _, _, h => by
    cases h with
    | @cons _ v _ vs L M h t =>
      obtain ⟨M', r, s⟩ := PRs.reverse t
      refine ⟨M' ++ (L ++ []), ?_, ?_⟩
      · rw [List.reverse_cons, List.reverse_cons]
        exact r.append (.cons h .nil)
      · rw [List.append_nil]
        exact (List.perm_append_comm).trans (List.Perm.append_left _ s)
theorem PRs.dropLast {xs : List PV} {vs : List V} {L : List Addr} (h : PRs K α H xs vs L) : ∃ M, PRs K α H xs.dropLast vs.dropLast M ∧ M.Sublist L := by
  rw [List.dropLast_eq_take, List.dropLast_eq_take, ← h.length]
  exact h.take _
end

/-! ### references below a bound -/
mutual
def PV.lt (b : Nat) : PV → Prop
  | .d _ => True
  | .fl _ => True
  | .tl xs => PV.lts b xs
  | .mt xs => PV.lts b xs
  | .ref n => n < b
  | .rg _ => True
  | .fd _ => True
def PV.lts (b : Nat) : List PV → Prop
  | [] => True
  | x :: xs => PV.lt b x ∧ PV.lts b xs
end
theorem PV.lts_iff {b : Nat} : ∀ {xs : List PV}, PV.lts b xs ↔ ∀ x ∈ xs, PV.lt b x
  | [] => by simp [PV.lts]
  | x :: xs => by simp [PV.lts, PV.lts_iff (xs := xs)]
def Cell.lt (b : Nat) : Cell → Prop
  | .lst xs => PV.lts b xs
mutual
theorem PR.lt {K : PySem.W.Frag} {α : List Addr} {H : Hp} : ∀ (x : PV) (v : V) (L : List Addr), PR K α H x v L → PV.lt α.length x
  | .d _, _, _, _ => trivial
  | .fl _, _, _, _ => trivial
  | .tl xs, _, _, h => by cases h with | tl h z r => exact PRs.lt xs _ _ r
  | .mt xs, _, _, h => by cases h with | mt h z r => exact PRs.lt xs _ _ r
  | .ref n, _, _, h => by cases h with | ref h => exact (List.getElem?_eq_some_iff.mp h).1
  | .rg _, _, _, _ => trivial
  | .fd _, _, _, _ => trivial
theorem PRs.lt {K : PySem.W.Frag} {α : List Addr} {H : Hp} : ∀ (xs : List PV) (vs : List V) (L : List Addr), PRs K α H xs vs L → PV.lts α.length xs
  | [], _, _, _ => trivial
  | x :: xs, _, _, h => by cases h with | cons h t => exact ⟨PR.lt x _ _ h, PRs.lt xs _ _ t⟩
end
mutual
theorem PR.cut {K : PySem.W.Frag} {α : List Addr} {H : Hp} {b : Nat} : ∀ (x : PV) (v : V) (L : List Addr), PR K α H x v L → PV.lt b x → PR K (α.take b) H x v L
  | .d _, _, _, h, _ => by cases h with | d h => exact .d h
  | .fl _, _, _, h, _ => by cases h with | fl h z r => exact .fl h z r
  | .tl xs, _, _, h, l => by cases h with | tl h z r => exact .tl h z (PRs.cut xs _ _ r l)
  | .mt xs, _, _, h, l => by cases h with | mt h z r => exact .mt h z (PRs.cut xs _ _ r l)
  | .ref n, _, _, h, l => by cases h with | ref h => exact .ref (by rw [List.getElem?_take_of_lt l]; exact h)
  | .rg n, _, _, h, _ => by cases h with | rg h b e => exact .rg h b e
  | .fd n, _, _, h, _ => by cases h with | fd h r => exact .fd h r
theorem PRs.cut {K : PySem.W.Frag} {α : List Addr} {H : Hp} {b : Nat} : ∀ (xs : List PV) (vs : List V) (L : List Addr), PRs K α H xs vs L → PV.lts b xs → PRs K (α.take b) H xs vs L
  | [], _, _, h, _ => by cases h; exact .nil
  | x :: xs, _, _, h, l => by cases h with | cons h t => exact .cons (PR.cut x _ _ h l.1) (PRs.cut xs _ _ t l.2)
end

/-! ### the cells -/
structure Good (K : PySem.W.Frag) (B : List Nat) (α : List Addr) (h : Hs) (H : Hp) : Prop where
  len : α.length = h.length
  nd : α.Nodup
  cell : ∀ (n : Nat) (xs : List PV) (a : Addr), h[n]? = some (.lst xs) → α[n]? = some a → ∃ vs, H a = some (.lst vs) ∧ xs.length ≤ sizeLine ∧ PRs K α H xs vs []
  wf : ∀ b ∈ B, b ≤ h.length ∧ ∀ n c, n < b → h[n]? = some c → Cell.lt b c
/-- from the state (α, H) to (α', H'): older things stay, but the cells -/
structure Step (α : List Addr) (H : Hp) (α' : List Addr) (H' : Hp) : Prop where
  pre : ∃ β, α' = α ++ β ∧ ∀ a ∈ β, H a = none
  keep : ∀ b o, H b = some o → b ∉ α → H' b = some o
  there : ∀ b o, H b = some o → ∃ o', H' b = some o'
section
variable {K : PySem.W.Frag} {B : List Nat} {α β γ : List Addr} {H H1 H2 H' : Hp} {h h1 h2 : Hs}
theorem Step.refl : Step α H α H := ⟨⟨[], by simp, fun _ z => by cases z⟩, fun _ _ e _ => e, fun _ o e => ⟨o, e⟩⟩
theorem Step.trans (s : Step α H β H1) (t : Step β H1 γ H2) : Step α H γ H2 := by
  obtain ⟨b1, e1, f1⟩ := s.pre
  obtain ⟨b2, e2, f2⟩ := t.pre
  have back : ∀ a, H1 a = none → H a = none := fun a n => by
    cases q : H a with
    | none => rfl
    | some o =>
      obtain ⟨o', e⟩ := s.there a o q
      rw [e] at n
      cases n
  refine ⟨⟨b1 ++ b2, by rw [e2, e1, List.append_assoc], fun a ha => ?_⟩, fun b o e nb => ?_, fun b o e => ?_⟩
  · rcases List.mem_append.mp ha with ha | ha
    · exact f1 a ha
    · exact back a (f2 a ha)
  · refine t.keep b o (s.keep b o e nb) fun z => ?_
    rw [e1] at z
    rcases List.mem_append.mp z with z | z
    · exact nb z
    · have := f1 b z
      rw [e] at this
      cases this
  · obtain ⟨o1, q1⟩ := s.there b o e
    exact t.there b o1 q1
theorem Step.ix (s : Step α H β H1) : ∀ (n : Nat) a, α[n]? = some a → β[n]? = some a := fun n a e => by
  obtain ⟨b1, e1, _⟩ := s.pre
  rw [e1, List.getElem?_append_left (List.getElem?_eq_some_iff.mp e).1]
  exact e
theorem Good.at (g : Good K B α h H) {n : Nat} {c : Cell} (e : h[n]? = some c) : ∃ a, α[n]? = some a := by
  have hn : n < α.length := by rw [g.len]; exact (List.getElem?_eq_some_iff.mp e).1
  exact ⟨_, List.getElem?_eq_getElem hn⟩
theorem Good.of_addr (g : Good K B α h H) {a : Addr} (ha : a ∈ α) : ∃ (n : Nat) (xs : List PV) (vs : List V), α[n]? = some a ∧ h[n]? = some (.lst xs) ∧ H a = some (.lst vs) := by
  obtain ⟨n, hn, e⟩ := List.getElem_of_mem ha
  have e1 : α[n]? = some a := by rw [List.getElem?_eq_getElem hn, e]
  have hn2 : n < h.length := by rw [← g.len]; exact hn
  have e2 : h[n]? = some h[n] := List.getElem?_eq_getElem hn2
  cases q : h[n] with
  | lst xs =>
    rw [q] at e2
    obtain ⟨vs, e3, _⟩ := g.cell n xs a e2 e1
    exact ⟨n, xs, vs, e1, e2, e3⟩
theorem Good.kept (g : Good K B α h H) (s : Step α H β H') : Kept (· ∈ α) H H' where
  cell := fun a ha => by
    obtain ⟨n, xs, vs, _, _, e⟩ := g.of_addr ha
    exact ⟨_, e, trivial⟩
  keep := fun b o e nb => s.keep b o e nb
/-- a new object -/
theorem Step.fresh {p : Addr} {o : HO} (n : H p = none) : Step α H α (upd H p o) :=
  ⟨⟨[], by simp, fun _ z => by cases z⟩, fun b u e _ => by rw [upd_ne (ne_of_none e n)]; exact e, fun b u e => ⟨u, by rw [upd_ne (ne_of_none e n)]; exact e⟩⟩
theorem Kept.fresh {p : Addr} {o : HO} (n : H p = none) : Kept (fun _ => False) H (upd H p o) :=
  ⟨fun _ z => z.elim, fun b u e _ => by rw [upd_ne (ne_of_none e n)]; exact e⟩
theorem Good.mono (g : Good K B α h H) (k : Kept (fun _ => False) H H') : Good K B α h H' where
  len := g.len
  nd := g.nd
  wf := g.wf
  cell := fun n xs a e1 e2 => by
    obtain ⟨vs, e, z, r⟩ := g.cell n xs a e1 e2
    exact ⟨vs, k.keep _ _ e fun z => z, z, PRs.keep k (fun _ _ e => e) _ _ _ r fun _ _ z => z⟩
theorem Good.fresh {p : Addr} {o : HO} (g : Good K B α h H) (n : H p = none) : Good K B α h (upd H p o) := g.mono (Kept.fresh n)
theorem lts_append {b : Nat} {xs ys : List PV} (h : PV.lts b xs) (g : PV.lts b ys) : PV.lts b (xs ++ ys) := PV.lts_iff.mpr fun x hx => by
  rcases List.mem_append.mp hx with z | z
  · exact PV.lts_iff.mp h x z
  · exact PV.lts_iff.mp g x z
theorem lts_sub {b : Nat} {xs ys : List PV} (h : PV.lts b xs) (g : ∀ x ∈ ys, x ∈ xs) : PV.lts b ys := PV.lts_iff.mpr fun x hx => PV.lts_iff.mp h x (g x hx)
theorem lts_set {b : Nat} {xs : List PV} {i : Nat} {v : PV} (h : PV.lts b xs) (g : PV.lt b v) : PV.lts b (xs.set i v) := PV.lts_iff.mpr fun x hx => by
  rcases List.mem_or_eq_of_mem_set hx with z | z
  · exact PV.lts_iff.mp h x z
  · rw [z]; exact g
/-- the cell n, at a, gets new items -/
theorem Good.write {n : Nat} {a : Addr} {xs ys : List PV} {ws : List V} (g : Good K B α h H) (e : h[n]? = some (.lst xs)) (ea : α[n]? = some a) (z : ys.length ≤ sizeLine) (r : PRs K α H ys ws [])
    (w : ∀ b ∈ B, n < b → PV.lts b ys) : Good K B α (h.set n (.lst ys)) (upd H a (.lst ws)) ∧ Step α H α (upd H a (.lst ws)) := by
  obtain ⟨vs, ha, _, _⟩ := g.cell n xs a e ea
  have mem : a ∈ α := List.mem_of_getElem? ea
  have k : Kept (· = a) H (upd H a (.lst ws)) := ⟨fun b hb => by subst hb; exact ⟨_, ha, trivial⟩, fun b o q hb => by rw [upd_ne hb]; exact q⟩
  refine ⟨⟨by rw [List.length_set]; exact g.len, g.nd, fun m zs b e1 e2 => ?_, fun b hb => ⟨by rw [List.length_set]; exact (g.wf b hb).1, fun m c hm e1 => ?_⟩⟩, ⟨⟨[], by simp, fun _ z => by cases z⟩, fun b o q nb => ?_, fun b o q => ?_⟩⟩
  · by_cases hm : m = n
    · subst hm
      rw [List.getElem?_set_self (List.getElem?_eq_some_iff.mp e).1] at e1
      have e3 : ys = zs := by cases e1; rfl
      rw [ea] at e2
      cases e2
      subst e3
      exact ⟨ws, upd_same, z, PRs.keep k (fun _ _ e => e) _ _ _ r fun _ z => by cases z⟩
    · rw [List.getElem?_set_ne (Ne.symm hm)] at e1
      obtain ⟨us, eb, zb, rb⟩ := g.cell m zs b e1 e2
      have hba : b ≠ a := fun q => by
        subst q
        have h1 := List.getElem?_eq_some_iff.mp e2
        have h2 := List.getElem?_eq_some_iff.mp ea
        exact hm ((List.getElem_inj g.nd).mp (h1.2.trans h2.2.symm))
      exact ⟨us, by rw [upd_ne hba]; exact eb, zb, PRs.keep k (fun _ _ e => e) _ _ _ rb fun _ z => by cases z⟩
  · by_cases hm2 : m = n
    · subst hm2
      rw [List.getElem?_set_self (List.getElem?_eq_some_iff.mp e).1] at e1
      cases e1
      exact w b hb hm
    · rw [List.getElem?_set_ne (Ne.symm hm2)] at e1
      exact (g.wf b hb).2 m c hm e1
  · rw [upd_ne (fun q => nb (by rw [q]; exact mem))]
    exact q
  · by_cases hb : b = a
    · subst hb; exact ⟨_, upd_same⟩
    · exact ⟨o, by rw [upd_ne hb]; exact q⟩
/-- a list that stands becomes a cell -/
theorem Good.push {a : Addr} {xs : List PV} {vs : List V} (g : Good K B α h H) (na : a ∉ α) (ha : H a = some (.lst vs)) (z : xs.length ≤ sizeLine) (r : PRs K α H xs vs []) : Good K B (α ++ [a]) (h ++ [.lst xs]) H := by
  have p : ∀ (n : Nat) b, α[n]? = some b → (α ++ [a])[n]? = some b := fun n b e => by
    rw [List.getElem?_append_left (List.getElem?_eq_some_iff.mp e).1]; exact e
  have k : Kept (fun _ => False) H H := ⟨fun _ z => z.elim, fun _ _ e _ => e⟩
  refine ⟨by rw [List.length_append, List.length_append, g.len]; rfl, ?_, fun n ys b e1 e2 => ?_, fun b hb => ⟨?_, fun n c hn e => ?_⟩⟩
  · rw [List.nodup_append]
    refine ⟨g.nd, by simp, fun x hx y hy => ?_⟩
    simp only [List.mem_singleton] at hy
    subst hy
    exact fun q => na (by rw [← q]; exact hx)
  · by_cases hn : n < h.length
    · rw [List.getElem?_append_left hn] at e1
      rw [List.getElem?_append_left (by rw [g.len]; exact hn)] at e2
      obtain ⟨us, q1, q2, q3⟩ := g.cell n ys b e1 e2
      exact ⟨us, q1, q2, PRs.keep k p _ _ _ q3 fun _ _ z => z⟩
    · have hn' : n = h.length := by
        have := (List.getElem?_eq_some_iff.mp e1).1
        rw [List.length_append, List.length_singleton] at this
        omega
      subst hn'
      rw [List.getElem?_append_right (Nat.le_refl _), Nat.sub_self] at e1
      rw [← g.len, List.getElem?_append_right (Nat.le_refl _), Nat.sub_self] at e2
      simp only [List.getElem?_cons_zero, Option.some.injEq, Cell.lst.injEq] at e1 e2
      subst e1 e2
      exact ⟨vs, ha, z, PRs.keep k p _ _ _ r fun _ _ z => z⟩
  · rw [List.length_append]
    exact Nat.le_trans (g.wf b hb).1 (Nat.le_add_right _ _)
  · rw [List.getElem?_append_left (Nat.lt_of_lt_of_le hn (g.wf b hb).1)] at e
    exact (g.wf b hb).2 n c hn e
end

/-! ### values that come of a run -/
structure Psts (K : PySem.W.Frag) (B : List Nat) (α0 : List Addr) (H0 : Hp) (α : List Addr) (H : Hp) (h : Hs) (zs : List PV) (vs : List V) (L : List Addr) : Prop where
  step : Step α0 H0 α H
  good : Good K B α h H
  rel : PRs K α H zs vs L
  nd : L.Nodup
  out : ∀ a ∈ L, a ∉ α
  fr : ∀ a ∈ L, H0 a = none
section
variable {K : PySem.W.Frag} {B : List Nat} {α0 α1 α α2 : List Addr} {H0 H1 H H2 : Hp} {h h1 h2 : Hs} {xs ys zs : List PV} {us vs ws : List V} {L M : List Addr}
theorem Step.none_back (s : Step α0 H0 α H) {a : Addr} (n : H a = none) : H0 a = none := by
  cases q : H0 a with
  | none => rfl
  | some o =>
    obtain ⟨o', e⟩ := s.there a o q
    rw [e] at n
    cases n
theorem Psts.nil (g : Good K B α h H) : Psts K B α H α H h [] [] [] := ⟨.refl, g, .nil, List.nodup_nil, fun _ z => absurd z List.not_mem_nil, fun _ z => absurd z List.not_mem_nil⟩
theorem Step.out (s : Step α H α2 H2) {a : Addr} {o : HO} (n : a ∉ α) (e : H a = some o) : a ∉ α2 := fun z => by
  obtain ⟨β, e1, f⟩ := s.pre
  rw [e1] at z
  rcases List.mem_append.mp z with z | z
  · exact n z
  · rw [f a z] at e
    cases e
/-- behind a further step -/
theorem Psts.later (p : Psts K B α0 H0 α H h zs vs L) (s : Step α H α2 H2) (g : Good K B α2 h2 H2) : Psts K B α0 H0 α2 H2 h2 zs vs L :=
  ⟨p.step.trans s, g, PRs.keep (p.good.kept s) s.ix _ _ _ p.rel p.out, p.nd, fun a ha => by
    obtain ⟨us, e⟩ := PRs.own _ _ _ p.rel a ha
    exact s.out (p.out a ha) e, p.fr⟩
theorem Psts.app (p : Psts K B α0 H0 α H h xs vs L) (q : Psts K B α H α2 H2 h2 ys ws M) : Psts K B α0 H0 α2 H2 h2 (xs ++ ys) (vs ++ ws) (L ++ M) := by
  have p' := p.later q.step q.good
  refine ⟨p'.step, q.good, p'.rel.append q.rel, ?_, fun a ha => ?_, fun a ha => ?_⟩
  · rw [List.nodup_append]
    refine ⟨p.nd, q.nd, fun a ha b hb e => ?_⟩
    subst e
    obtain ⟨us, e⟩ := PRs.own _ _ _ p.rel a ha
    rw [q.fr a hb] at e
    cases e
  · rcases List.mem_append.mp ha with z | z
    · exact p'.out a z
    · exact q.out a z
  · rcases List.mem_append.mp ha with z | z
    · exact p.fr a z
    · exact p.step.none_back (q.fr a z)
/-- another value of the same state -/
theorem Psts.to (p : Psts K B α0 H0 α H h xs vs L) (r : PRs K α H ys ws M) (s : M.Sublist L) : Psts K B α0 H0 α H h ys ws M :=
  ⟨p.step, p.good, r, p.nd.sublist s, fun a ha => p.out a (s.subset ha), fun a ha => p.fr a (s.subset ha)⟩
/-- a new object -/
theorem Psts.fresh {q : Addr} {o : HO} (p : Psts K B α0 H0 α H h xs vs L) (n : H q = none) : Psts K B α0 H0 α (upd H q o) h xs vs L := p.later (Step.fresh n) (p.good.fresh n)
theorem Psts.fresh_out {q : Addr} (p : Psts K B α0 H0 α H h xs vs L) (n : H q = none) : q ∉ α ∧ H0 q = none ∧ q ∉ L := by
  refine ⟨fun z => ?_, p.step.none_back n, fun z => ?_⟩
  · obtain ⟨_, _, us, _, _, e⟩ := p.good.of_addr z
    rw [n] at e
    cases e
  · obtain ⟨us, e⟩ := PRs.own _ _ _ p.rel q z
    rw [n] at e
    cases e
/-- .. that is a list of such values -/
theorem Psts.newList {q : Addr} (p : Psts K B α0 H0 α H h xs vs L) (n : H q = none) (r : PRs K α H ys ws M) (s : M.Sublist L) (z : ys.length ≤ sizeLine) : Psts K B α0 H0 α (upd H q (.lst ws)) h [.tl ys] [.ref q] (q :: M) := by
  obtain ⟨f1, f2, f3⟩ := p.fresh_out n
  have p1 := (p.to r s).fresh (o := .lst ws) n
  refine ⟨p1.step, p1.good, ?_, ?_, fun a ha => ?_, fun a ha => ?_⟩
  · have := PRs.cons (PR.tl (K := K) (α := α) (H := upd H q (.lst ws)) upd_same z p1.rel) .nil
    rw [List.append_nil] at this
    exact this
  · exact List.nodup_cons.mpr ⟨fun z => f3 (s.subset z), p1.nd⟩
  · rcases List.mem_cons.mp ha with e | ha
    · rw [e]; exact f1
    · exact p1.out a ha
  · rcases List.mem_cons.mp ha with e | ha
    · rw [e]; exact f2
    · exact p1.fr a ha
theorem Psts.one {x : PV} {v : V} (p : Psts K B α0 H0 α H h [x] [v] L) : PR K α H x v L := by
  obtain ⟨_, _, r, _, _, _⟩ := p
  cases r with
  | cons r t =>
    cases t
    rw [List.append_nil]
    exact r
theorem PR.ones {x : PV} {v : V} (r : PR K α H x v L) : PRs K α H [x] [v] L := by
  have := PRs.cons r .nil
  rw [List.append_nil] at this
  exact this
end

/-! ### data as the model's -/
section
variable {K : PySem.W.Frag} {α : List Addr} {H : Hp}
mutual
theorem DR.dp : ∀ (x : D) (v : V), DR K H x v → Dp K H v x.py
  | .non, _, h => by cases h; exact .non
  | .bl b, _, h => by cases h; exact .bl b
  | .int i, _, h => by cases h; exact .int i
  | .str s, _, h => by cases h; exact .str s
  | .tup ds, _, h => by cases h with | tup h z r => exact .tup h (DRs.dp ds _ r)
theorem DRs.dp : ∀ (xs : List D) (vs : List V), DRs K H xs vs → DpAll K H vs (D.pys xs)
  | [], _, h => by cases h; exact .nil
  | x :: xs, _, h => by cases h with | cons h t => exact .cons (DR.dp x _ h) (DRs.dp xs _ t)
end
end
end Pe
/-! Pe: stores make cells; the operators keep the relation. -/
namespace Pe
open PySem PySem.Spec PyProof.Rows L2

section
variable {K : PySem.W.Frag} {B : List Nat} {H : Hp}
theorem PR.same {α β : List Addr} {x : PV} {v : V} {L : List Addr} (r : PR K α H x v L) (p : ∀ (n : Nat) a, α[n]? = some a → β[n]? = some a) : PR K β H x v L :=
  PR.keep (S := fun _ => False) ⟨fun _ z => z.elim, fun _ _ e _ => e⟩ p _ _ _ r fun _ _ z => z
theorem PRs.same {α β : List Addr} {x : List PV} {v : List V} {L : List Addr} (r : PRs K α H x v L) (p : ∀ (n : Nat) a, α[n]? = some a → β[n]? = some a) : PRs K β H x v L :=
  PRs.keep (S := fun _ => False) ⟨fun _ z => z.elim, fun _ _ e _ => e⟩ p _ _ _ r fun _ _ z => z
theorem ix_app {α β : List Addr} : ∀ (n : Nat) a, α[n]? = some a → (α ++ β)[n]? = some a := fun n a e => by
  rw [List.getElem?_append_left (List.getElem?_eq_some_iff.mp e).1]
  exact e
mutual
theorem conv_ok : ∀ (v : PV) (u : V) (L α : List Addr) (h : Hs), Good K B α h H → PR K α H v u L → L.Nodup → (∀ a ∈ L, a ∉ α) →
    ∃ β, (∀ a ∈ β, a ∈ L) ∧ Good K B (α ++ β) (conv v h).2 H ∧ PR K (α ++ β) H (conv v h).1 u []
  | .d x, _, _, α, h, g, r, _, _ => by
    cases r with
    | d r => exact ⟨[], fun _ z => absurd z List.not_mem_nil, by rw [List.append_nil]; exact g, .d r⟩
  | .fl x, _, _, α, h, g, r, _, _ => by
    cases r with
    | fl q z r => exact ⟨[], fun _ z => absurd z List.not_mem_nil, by rw [List.append_nil]; exact g, .fl q z r⟩
  | .ref n, _, _, α, h, g, r, _, _ => by
    cases r with
    | ref q => exact ⟨[], fun _ z => absurd z List.not_mem_nil, by rw [List.append_nil]; exact g, by rw [List.append_nil]; exact .ref q⟩
  | .rg n, _, _, α, h, g, r, _, _ => by
    cases r with
    | rg q b e => exact ⟨[], fun _ z => absurd z List.not_mem_nil, by rw [List.append_nil]; exact g, .rg q b e⟩
  | .fd n, _, _, α, h, g, r, _, _ => by
    cases r with
    | fd q b => exact ⟨[], fun _ z => absurd z List.not_mem_nil, by rw [List.append_nil]; exact g, .fd q b⟩
  | .tl xs, _, _, α, h, g, r, nd, out => by
    cases r with
    | @tl a vs _ L q z r =>
      obtain ⟨n1, n2⟩ := List.nodup_cons.mp nd
      obtain ⟨β, hβ, g1, r1⟩ := convs_ok xs vs L α h g r n2 fun b hb => out b (List.mem_cons_of_mem _ hb)
      have na : a ∉ α ++ β := fun z => by
        rcases List.mem_append.mp z with z | z
        · exact out a List.mem_cons_self z
        · exact n1 (hβ a z)
      have hz : (convs xs h).1.length ≤ sizeLine := by rw [r1.length, ← r.length]; exact z
      have g2 := g1.push na q hz r1
      refine ⟨β ++ [a], fun b hb => ?_, by rw [← List.append_assoc]; exact g2, ?_⟩
      · rcases List.mem_append.mp hb with z | z
        · exact List.mem_cons_of_mem _ (hβ b z)
        · simp only [List.mem_singleton] at z
          rw [z]
          exact List.mem_cons_self
      · show PR K (α ++ (β ++ [a])) H (.ref (convs xs h).2.length) (.ref a) []
        refine .ref ?_
        rw [← List.append_assoc, ← g1.len, List.getElem?_append_right (Nat.le_refl _), Nat.sub_self]
        rfl
  | .mt xs, _, _, α, h, g, r, nd, out => by
    cases r with
    | mt q z r =>
      obtain ⟨β, hβ, g1, r1⟩ := convs_ok xs _ _ α h g r nd out
      exact ⟨β, hβ, g1, .mt q (by rw [r1.length, ← r.length]; exact z) r1⟩
theorem convs_ok : ∀ (xs : List PV) (us : List V) (L α : List Addr) (h : Hs), Good K B α h H → PRs K α H xs us L → L.Nodup → (∀ a ∈ L, a ∉ α) →
    ∃ β, (∀ a ∈ β, a ∈ L) ∧ Good K B (α ++ β) (convs xs h).2 H ∧ PRs K (α ++ β) H (convs xs h).1 us []
  | [], _, _, α, h, g, r, _, _ => by
    cases r
    exact ⟨[], fun _ z => absurd z List.not_mem_nil, by rw [List.append_nil]; exact g, .nil⟩
  | x :: xs, _, _, α, h, g, r, nd, out => by
    cases r with
    | @cons _ u _ us L M r t =>
      obtain ⟨d1, d2, d3⟩ := List.nodup_append.mp nd
      obtain ⟨β, hβ, g1, r1⟩ := conv_ok x u L α h g r d1 fun a ha => out a (List.mem_append_left _ ha)
      have t1 : PRs K (α ++ β) H xs us M := t.same ix_app
      obtain ⟨γ, hγ, g2, r2⟩ := convs_ok xs us M (α ++ β) (conv x h).2 g1 t1 d2 fun a ha z => by
        rcases List.mem_append.mp z with z | z
        · exact out a (List.mem_append_right _ ha) z
        · exact d3 a (hβ a z) a ha rfl
      refine ⟨β ++ γ, fun a ha => ?_, by rw [← List.append_assoc]; exact g2, ?_⟩
      · rcases List.mem_append.mp ha with z | z
        · exact List.mem_append_left _ (hβ a z)
        · exact List.mem_append_right _ (hγ a z)
      · rw [← List.append_assoc]
        exact .cons (L := []) (r1.same ix_app) r2
end
/-- a value is stored: what it owns becomes cells -/
theorem Psts.conv {α0 α : List Addr} {H0 : Hp} {h : Hs} {v : PV} {u : V} {L : List Addr} (p : Psts K B α0 H0 α H h [v] [u] L) :
    ∃ α', Psts K B α0 H0 α' H (Pe.conv v h).2 [(Pe.conv v h).1] [u] [] ∧ (∀ (n : Nat) a, α[n]? = some a → α'[n]? = some a) ∧ ∀ a ∈ α', a ∈ α ∨ a ∈ L := by
  obtain ⟨β, hβ, g, r⟩ := conv_ok v u L α h p.good p.one p.nd p.out
  obtain ⟨γ, e, f⟩ := p.step.pre
  refine ⟨α ++ β, ⟨⟨⟨γ ++ β, by rw [e, List.append_assoc], fun a ha => ?_⟩, p.step.keep, p.step.there⟩, g, r.ones, List.nodup_nil, fun _ z => absurd z List.not_mem_nil, fun _ z => absurd z List.not_mem_nil⟩, ix_app, fun a ha => (List.mem_append.mp ha).imp id (hβ a)⟩
  rcases List.mem_append.mp ha with z | z
  · exact f a z
  · exact p.fr a (hβ a z)
theorem Psts.convs {α0 α : List Addr} {H0 : Hp} {h : Hs} {vs : List PV} {us : List V} {L : List Addr} (p : Psts K B α0 H0 α H h vs us L) :
    ∃ α', Psts K B α0 H0 α' H (Pe.convs vs h).2 (Pe.convs vs h).1 us [] ∧ (∀ (n : Nat) a, α[n]? = some a → α'[n]? = some a) ∧ ∀ a ∈ α', a ∈ α ∨ a ∈ L := by
  obtain ⟨β, hβ, g, r⟩ := convs_ok vs us L α h p.good p.rel p.nd p.out
  obtain ⟨γ, e, f⟩ := p.step.pre
  refine ⟨α ++ β, ⟨⟨⟨γ ++ β, by rw [e, List.append_assoc], fun a ha => ?_⟩, p.step.keep, p.step.there⟩, g, r, List.nodup_nil, fun _ z => absurd z List.not_mem_nil, fun _ z => absurd z List.not_mem_nil⟩, ix_app, fun a ha => (List.mem_append.mp ha).imp id (hβ a)⟩
  rcases List.mem_append.mp ha with z | z
  · exact f a z
  · exact p.fr a (hβ a z)
end

/-! ### rules by what they say -/
def OpS (X : Cx) (f : Value → Value → Sem Value) : R2 := fun x y H Q => ∀ (pins : List (Addr × Obj)) (s : Shared) (σ : L2.St) (v u : Value), Inv X pins σ H s → RelV x v → RelV y u → wpAny (model X.prog X.w) X.A (f v u) (EP X pins σ Q) X.xe s
theorem ops_rule {X : Cx} {f : Value → Value → Sem Value} : OpR X f (OpS X f) := fun pins s σ _ _ _ v u _ I rx ry h => h pins s σ v u I rx ry
theorem OpS.use {X : Cx} {f : Value → Value → Sem Value} {r : R2} {x y : V} {H : Hp} {Q : VK} (o : OpR X f r) (h : r x y H Q) : OpS X f x y H Q := fun pins s σ v u I rx ry => o pins s σ H x y v u Q I rx ry h
def UnS (X : Cx) (f : Value → Sem Value) : V → Hp → VK → Prop := fun x H Q => ∀ (pins : List (Addr × Obj)) (s : Shared) (σ : L2.St) (v : Value), Inv X pins σ H s → RelV x v → wpAny (model X.prog X.w) X.A (f v) (EP X pins σ Q) X.xe s
theorem uns_rule {X : Cx} {f : Value → Sem Value} : UnR X f (UnS X f) := fun pins s σ _ _ v _ I rx h => h pins s σ v I rx
theorem UnS.use {X : Cx} {f : Value → Sem Value} {r : V → Hp → VK → Prop} {x : V} {H : Hp} {Q : VK} (o : UnR X f r) (h : r x H Q) : UnS X f x H Q := fun pins s σ v I rx => o pins s σ H x v Q I rx h
def CallS (X : Cx) (f : Value) : List V → Hp → VK → Prop := fun xs H Q => ∀ (pins : List (Addr × Obj)) (s : Shared) (σ : L2.St) (us : List Value), Inv X pins σ H s → Vals xs us → wpAny (model X.prog X.w) X.A (PySem.call f us) (EP X pins σ Q) X.xe s
theorem calls_rule {X : Cx} {f : Value} : CallR X f (CallS X f) := fun pins s σ _ _ us _ I r h => h pins s σ us I r
theorem CallS.use {X : Cx} {f : Value} {r : List V → Hp → VK → Prop} {xs : List V} {H : Hp} {Q : VK} (o : CallR X f r) (h : r xs H Q) : CallS X f xs H Q := fun pins s σ us I rx => o pins s σ H xs us Q I rx h

section
variable {K : PySem.W.Frag} {B : List Nat} {α0 α : List Addr} {H0 H : Hp} {h h' : Hs} {x y z v : PV} {u w vv : V} {L M : List Addr}
theorem Psts.dat {xs : List PV} {us : List V} (p : Psts K B α0 H0 α H h xs us L) {d : D} {t : V} (r : DR K H d t) : Psts K B α0 H0 α H h [.d d] [t] [] := p.to (PR.d r).ones (List.nil_sublist _)
theorem PR.int_inv {i : Int} (r : PR K α H (.d (.int i)) u L) : u = .int i ∧ L = [] := by
  cases r with
  | d r => cases r; exact ⟨rfl, rfl⟩
theorem PR.str_inv {i : Str} (r : PR K α H (.d (.str i)) u L) : u = .str i ∧ L = [] := by
  cases r with
  | d r => cases r; exact ⟨rfl, rfl⟩
theorem PR.bl_inv {i : Bool} (r : PR K α H (.d (.bl i)) u L) : u = .bl i ∧ L = [] := by
  cases r with
  | d r => cases r; exact ⟨rfl, rfl⟩
theorem PR.dat_inv {d : D} (r : PR K α H (.d d) u L) : DR K H d u ∧ L = [] := by
  cases r with
  | d r => exact ⟨r, rfl⟩
theorem PRs.two {xs : List V} (r : PRs K α H [x, y] xs L) : ∃ u w L1 L2, xs = [u, w] ∧ L = L1 ++ L2 ∧ PR K α H x u L1 ∧ PR K α H y w L2 := by
  obtain ⟨u, us, M, N, rfl, rfl, r1, t⟩ := r.uncons
  obtain ⟨w, ws, M2, N2, rfl, rfl, r2, t2⟩ := t.uncons
  cases t2
  exact ⟨u, w, M, M2, rfl, by rw [List.append_nil], r1, r2⟩
theorem PRs.three {xs : List V} (r : PRs K α H [x, y, z] xs L) : ∃ u w t L1 L2 L3, xs = [u, w, t] ∧ L = L1 ++ (L2 ++ L3) ∧ PR K α H x u L1 ∧ PR K α H y w L2 ∧ PR K α H z t L3 := by
  obtain ⟨u, us, M, N, rfl, rfl, r1, t⟩ := r.uncons
  obtain ⟨w, t', L1, L2, rfl, rfl, r2, r3⟩ := t.two
  exact ⟨u, w, t', M, L1, L2, rfl, rfl, r1, r2, r3⟩
theorem DRs.append : ∀ {a b : List D} {us ws : List V}, DRs K H a us → DRs K H b ws → DRs K H (a ++ b) (us ++ ws)
  | [], _, _, _, h, t => by cases h; exact t
  | x :: xs, _, _, _, h, t => by cases h with | cons h r => exact .cons h (DRs.append r t)
theorem PR.tup_inv {ds : List D} (r : PR K α H (.d (.tup ds)) u L) : ∃ a vs, u = .ref a ∧ L = [] ∧ SqT K H a vs ∧ ds.length ≤ sizeLine ∧ DRs K H ds vs := by
  cases r with
  | d r => cases r with | tup h z r => exact ⟨_, _, rfl, rfl, h, z, r⟩
theorem tup_ok {xs : List PV} (e : tupOf v = some xs) (r : PR K α H v u L) : ∃ a vs, u = .ref a ∧ SqT K H a vs ∧ xs.length ≤ sizeLine ∧ PRs K α H xs vs L := by
  cases v with
  | d x =>
    cases x with
    | tup ds =>
      obtain ⟨a, vs, rfl, rfl, s, z, r⟩ := r.tup_inv
      cases e
      exact ⟨a, vs, rfl, s, by rw [List.length_map]; exact z, PRs.of_ds r⟩
    | non => cases e
    | bl _ => cases e
    | int _ => cases e
    | str _ => cases e
  | mt xs =>
    cases e
    cases r with
    | mt h z r => exact ⟨_, _, rfl, h, z, r⟩
  | tl _ => cases e
  | fl _ => cases e
  | ref _ => cases e
  | rg _ => cases e
  | fd _ => cases e
theorem mut_ok {xs : List PV} (g : Good K B α h H) (e : mutOf v h = some xs) (r : PR K α H v u L) : ∃ a vs M, u = .ref a ∧ H a = some (.lst vs) ∧ xs.length ≤ sizeLine ∧ PRs K α H xs vs M ∧ M.Sublist L := by
  cases v with
  | tl xs =>
    cases e
    cases r with
    | tl h z r => exact ⟨_, _, _, rfl, h, z, r, List.sublist_cons_self _ _⟩
  | ref n =>
    cases r with
    | ref q =>
      simp only [mutOf] at e
      cases q2 : h[n]? with
      | none => rw [q2] at e; cases e
      | some c =>
        cases c with
        | lst ys =>
          rw [q2] at e
          cases e
          obtain ⟨vs, e1, z, r⟩ := g.cell n xs _ q2 q
          exact ⟨_, vs, [], rfl, e1, z, r, List.nil_sublist _⟩
  | d _ => cases e
  | fl _ => cases e
  | mt _ => cases e
  | rg _ => cases e
  | fd _ => cases e
theorem lst_ok {xs : List PV} (g : Good K B α h H) (e : lstOf v h = some xs) (r : PR K α H v u L) : ∃ a vs M, u = .ref a ∧ SqL K H a vs ∧ xs.length ≤ sizeLine ∧ PRs K α H xs vs M ∧ M.Sublist L := by
  cases v with
  | tl xs =>
    cases e
    cases r with
    | tl h z r => exact ⟨_, _, _, rfl, .inl (.inl h), z, r, List.sublist_cons_self _ _⟩
  | fl ds =>
    cases e
    cases r with
    | fl h z r => exact ⟨_, _, [], rfl, h.sql, by rw [List.length_map]; exact z, PRs.of_ds r, List.nil_sublist _⟩
  | ref n =>
    have e' : mutOf (.ref n) h = some xs := e
    obtain ⟨a, vs, M, e1, e2, z, r, s⟩ := mut_ok g e' r
    exact ⟨a, vs, M, e1, .inl (.inl e2), z, r, s⟩
  | d _ => cases e
  | mt _ => cases e
  | rg _ => cases e
  | fd _ => cases e
theorem seq_ok {xs : List PV} (g : Good K B α h H) (e : seqOf v h = some xs) (r : PR K α H v u L) : ∃ a vs M, u = .ref a ∧ (SqL K H a vs ∨ SqT K H a vs) ∧ xs.length ≤ sizeLine ∧ PRs K α H xs vs M ∧ M.Sublist L := by
  unfold seqOf at e
  cases q : tupOf v with
  | some ys =>
    rw [q] at e
    cases e
    obtain ⟨a, vs, e1, s, z, r⟩ := tup_ok q r
    exact ⟨a, vs, L, e1, .inr s, z, r, List.Sublist.refl _⟩
  | none =>
    rw [q] at e
    obtain ⟨a, vs, M, e1, s, z, r, sb⟩ := lst_ok g e r
    exact ⟨a, vs, M, e1, .inl s, z, r, sb⟩
/-! ### as the model's data -/
mutual
theorem toPyG_ok {f : Nat → Option PyData} (hf : ∀ n a p, f n = some p → α[n]? = some a → Dp K H (.ref a) p) : ∀ (v : PV) (u : V) (L : List Addr) (p : PyData), PR K α H v u L → toPyG f v = some p → Dp K H u p
  | .d x, _, _, _, r, e => by cases e; cases r with | d r => exact DR.dp x _ r
  | .tl xs, _, _, _, r, e => by
    simp only [toPyG] at e
    cases q : toPysG f xs with
    | none => rw [q] at e; cases e
    | some ys =>
      rw [q] at e
      cases e
      cases r with
      | tl h z r => exact .lst (.inl (.inl h)) (toPysG_ok hf xs _ _ ys r q)
  | .fl ds, _, _, _, r, e => by
    cases e
    cases r with
    | fl h z r => exact .lst h.sql (DRs.dp ds _ r)
  | .mt xs, _, _, _, r, e => by
    simp only [toPyG] at e
    cases q : toPysG f xs with
    | none => rw [q] at e; cases e
    | some ys =>
      rw [q] at e
      cases e
      cases r with
      | mt h z r => exact .tup h (toPysG_ok hf xs _ _ ys r q)
  | .ref n, _, _, _, r, e => by cases r with | ref h => exact hf n _ _ e h
theorem toPysG_ok {f : Nat → Option PyData} (hf : ∀ n a p, f n = some p → α[n]? = some a → Dp K H (.ref a) p) : ∀ (xs : List PV) (us : List V) (L : List Addr) (ps : List PyData), PRs K α H xs us L → toPysG f xs = some ps → DpAll K H us ps
  | [], _, _, _, r, e => by cases e; cases r; exact .nil
  | x :: xs, _, _, _, r, e => by
    simp only [toPysG] at e
    cases q : toPyG f x with
    | none => rw [q] at e; cases e
    | some y =>
      cases q2 : toPysG f xs with
      | none => rw [q, q2] at e; cases e
      | some ys =>
        rw [q, q2] at e
        cases e
        cases r with
        | cons r t => exact .cons (toPyG_ok hf x _ _ y r q) (toPysG_ok hf xs _ _ ys t q2)
end
theorem pyR_ok (g : Good K B α h H) : ∀ (k n : Nat) (a : Addr) (p : PyData), pyR h k n = some p → α[n]? = some a → Dp K H (.ref a) p
  | 0, _, _, _, e, _ => by cases e
  | k + 1, n, a, p, e, ea => by
    simp only [pyR] at e
    cases q : h[n]? with
    | none => rw [q] at e; cases e
    | some c =>
      cases c with
      | lst xs =>
        rw [q] at e
        simp only at e
        cases q2 : toPysG (pyR h k) xs with
        | none => rw [q2] at e; cases e
        | some ys =>
          rw [q2] at e
          cases e
          obtain ⟨vs, e1, z, r⟩ := g.cell n xs a q ea
          exact .lst (.inl (.inl e1)) (toPysG_ok (fun n a p => pyR_ok g k n a p) xs vs [] ys r q2)
theorem toPy_ok {p : PyData} (g : Good K B α h H) (r : PR K α H v u L) (e : toPy h v = some p) : Dp K H u p := toPyG_ok (pyR_ok g 4) v u L p r e
end

/-! ### the operators -/
def BOp.op : BOp → Operator
  | .add => .Add | .sub => .Sub | .mul => .Mult | .fdiv => .FloorDiv | .mod => .Mod | .pow => .Pow | .shl => .LShift | .shr => .RShift | .band => .BitAnd | .bor => .BitOr | .bxor => .BitXor
def UOp.op : UOp → UnaryOp
  | .neg => .USub | .inv => .Invert
def COp.op : COp → CmpOp
  | .eq => .Eq | .ne => .NotEq | .lt => .Lt | .le => .LtE | .gt => .Gt | .ge => .GtE | .isN => .Is | .notN => .IsNot | .inn => .In | .nin => .NotIn
section
variable {X : Cx} {B : List Nat} {α0 α : List Addr} {H0 H : Hp} {h h' : Hs} {x y z v : PV} {u w vv : V} {L M : List Addr} {Q : VK}
/-- what is wanted behind a run -/
def Wnt (K : PySem.W.Frag) (B : List Nat) (α0 : List Addr) (H0 : Hp) (z : PV) (h : Hs) (Q : VK) : Prop := ∀ α H v L, Psts K B α0 H0 α H h [z] [v] L → Q v H
theorem mul64 {i j : Int} (e : mulOk i j = true) : CMul i j := by
  unfold mulOk at e
  rw [Bool.or_eq_true, decide_eq_true_eq, decide_eq_true_eq] at e
  unfold CMul
  omega
theorem DRs.rep {K : PySem.W.Frag} {H : Hp} {xs : List D} {vs : List V} (h : DRs K H xs vs) : ∀ n : Nat, DRs K H (List.replicate n xs).flatten (List.replicate n vs).flatten
  | 0 => .nil
  | n + 1 => by
    rw [List.replicate_succ, List.replicate_succ, List.flatten_cons, List.flatten_cons]
    exact h.append (h.rep n)
theorem repS_len (s : Str) (n : Nat) : (repS s n).length = s.length * n := by
  have key : ∀ (n : Nat) (acc : Array Nat), ((List.replicate n s.cps).foldl (· ++ ·) acc).size = acc.size + s.cps.size * n := by
    intro n
    induction n with
    | zero => intro acc; simp
    | succ n ih =>
      intro acc
      rw [List.replicate_succ, List.foldl_cons, ih, Array.size_append, Nat.mul_succ]
      omega
  show ((List.replicate n s.cps).foldl (· ++ ·) #[]).size = _
  rw [key]
  show 0 + s.cps.size * n = s.cps.size * n
  omega
theorem op_mulS {X : Cx} : OpR X (binaryOp .Mult) (fun x y H Q => ∃ (s : Str) (k : Int), x = .str s ∧ y = .int k ∧ 2 ≤ k ∧ k ≤ 1000000 ∧ 0 < s.length ∧ s.length * k.toNat ≤ 1000000 ∧ Q (.str (repS s k.toNat)) H) := by
  intro pins s σ H x y v u Q I rx ry h
  obtain ⟨a, k, rfl, rfl, h1, h2, h3, h4, q⟩ := h
  obtain ⟨t, rfl⟩ := rx
  obtain ⟨t2, rfl⟩ := ry
  have hz : PySem.sizeLine = 2 ^ 24 := rfl
  refine PySem.P.mul_str (by rw [decide_eq_false (by omega), decide_eq_false (by omega)]; rfl) (fun _ _ => ?_) (fun _ _ => ?_) ?_
  · have e1 : ((2 : Int) ^ 63 - 1) / 1000000 ≤ (2 ^ 63 - 1) / k := by
      refine Int.le_ediv_of_mul_le (by omega) ?_
      have : ((2 : Int) ^ 63 - 1) / 1000000 * k ≤ ((2 : Int) ^ 63 - 1) / 1000000 * 1000000 := Int.mul_le_mul_of_nonneg_left h2 (by decide)
      exact Int.le_trans this (by decide)
    have e2 : (a.length : Int) ≤ 1000000 := by
      have : a.length * 1 ≤ a.length * k.toNat := Nat.mul_le_mul_left _ (by omega)
      omega
    have e3 : (1000000 : Int) ≤ ((2 : Int) ^ 63 - 1) / 1000000 := by decide
    omega
  · exact decide_eq_false (by rw [hz]; omega)
  · rw [if_neg (by omega), if_neg (by
      rw [Bool.or_eq_true, beq_iff_eq, beq_iff_eq]
      omega)]
    exact ⟨by
      show (⟨_⟩ : Str).length ≤ _
      have := repS_len a k.toNat
      unfold repS at this
      rw [this, sizeLine_eq]
      omega, .str _, H, I.tok _, ⟨_, rfl⟩, q⟩
theorem bin_ok {o : BOp} (p : Psts X.K B α0 H0 α H h [x, y] [u, w] L) (e : binV o x y h = some (z, h')) (q : Wnt X.K B α0 H0 z h' Q) : OpS X (binaryOp o.op) u w H Q := by
  obtain ⟨_, _, L1, L2, e1, rfl, r1, r2⟩ := p.rel.two
  cases e1
  have din : ∀ i : Int, z = .d (.int i) → h' = h → Q (.int i) H := fun i ez eh => by
    subst ez eh
    exact q _ _ _ _ (p.dat (.int i))
  unfold binV at e
  split at e
  · obtain ⟨rfl, rfl⟩ := r1.int_inv
    obtain ⟨rfl, rfl⟩ := r2.int_inv
    cases e
    exact OpS.use op_add ⟨_, _, rfl, rfl, din _ rfl rfl⟩
  · obtain ⟨rfl, rfl⟩ := r1.int_inv
    obtain ⟨rfl, rfl⟩ := r2.int_inv
    cases e
    exact OpS.use op_sub ⟨_, _, rfl, rfl, din _ rfl rfl⟩
  · obtain ⟨rfl, rfl⟩ := r1.int_inv
    obtain ⟨rfl, rfl⟩ := r2.int_inv
    split at e
    · cases e
      rename_i hm
      exact OpS.use op_mul ⟨_, _, rfl, rfl, mul64 hm, din _ rfl rfl⟩
    · cases e
  · obtain ⟨rfl, rfl⟩ := r1.str_inv
    obtain ⟨rfl, rfl⟩ := r2.int_inv
    split at e
    · cases e
      rename_i hm
      exact OpS.use op_mulS ⟨_, _, rfl, rfl, hm.1, hm.2.1, hm.2.2.1, hm.2.2.2, q _ _ _ _ (p.dat (.str _))⟩
    · cases e
  · obtain ⟨rfl, rfl⟩ := r2.int_inv
    split at e
    · rename_i ds hd
      split at e
      · cases e
        rename_i hm
        have ed := allD_some hd
        subst ed
        cases r1 with
        | @tl a vs _ L' ha z1 t1 =>
          obtain ⟨rd, rfl⟩ := t1.to_ds
          have hl := rd.length
          rw [List.length_map] at hm
          refine OpS.use op_rep ⟨a, _, vs, rfl, rfl, ha, by omega, by omega, by rw [← hl, sizeLine_eq]; omega, fun c nc => q _ _ _ _ (p.newList nc (PRs.of_ds (rd.rep _)) (List.nil_sublist _) ?_)⟩
          rw [List.length_map, List.length_flatten, List.map_replicate, List.sum_replicate_nat, sizeLine_eq, Nat.mul_comm]
          omega
      · cases e
    · cases e
  · obtain ⟨rfl, rfl⟩ := r1.int_inv
    obtain ⟨rfl, rfl⟩ := r2.int_inv
    split at e
    · cases e
      rename_i hm
      exact OpS.use op_fdivN ⟨_, _, rfl, rfl, hm, din _ rfl rfl⟩
    · cases e
  · obtain ⟨rfl, rfl⟩ := r1.int_inv
    obtain ⟨rfl, rfl⟩ := r2.int_inv
    split at e
    · cases e
      rename_i hm
      exact OpS.use op_modN ⟨_, _, rfl, rfl, hm, din _ rfl rfl⟩
    · cases e
  · obtain ⟨rfl, rfl⟩ := r1.int_inv
    obtain ⟨rfl, rfl⟩ := r2.int_inv
    split at e
    · cases e
      rename_i hm
      exact OpS.use op_pow ⟨_, _, rfl, rfl, hm, din _ rfl rfl⟩
    · cases e
  · obtain ⟨rfl, rfl⟩ := r1.int_inv
    obtain ⟨rfl, rfl⟩ := r2.int_inv
    split at e
    · cases e
      rename_i hm
      exact OpS.use op_shl ⟨_, _, rfl, rfl, hm, din _ rfl rfl⟩
    · cases e
  · obtain ⟨rfl, rfl⟩ := r1.int_inv
    obtain ⟨rfl, rfl⟩ := r2.int_inv
    split at e
    · cases e
      rename_i hm
      exact OpS.use op_shr ⟨_, _, rfl, rfl, hm, din _ rfl rfl⟩
    · cases e
  · obtain ⟨rfl, rfl⟩ := r1.int_inv
    obtain ⟨rfl, rfl⟩ := r2.int_inv
    cases e
    exact OpS.use op_and ⟨_, _, rfl, rfl, din _ rfl rfl⟩
  · obtain ⟨rfl, rfl⟩ := r1.int_inv
    obtain ⟨rfl, rfl⟩ := r2.int_inv
    cases e
    exact OpS.use op_or ⟨_, _, rfl, rfl, din _ rfl rfl⟩
  · obtain ⟨rfl, rfl⟩ := r1.int_inv
    obtain ⟨rfl, rfl⟩ := r2.int_inv
    cases e
    exact OpS.use op_xor ⟨_, _, rfl, rfl, din _ rfl rfl⟩
  · obtain ⟨rfl, rfl⟩ := r1.str_inv
    obtain ⟨rfl, rfl⟩ := r2.str_inv
    split at e
    · cases e
      rename_i hm
      exact OpS.use op_add_str ⟨_, _, rfl, rfl, hm, q _ _ _ _ (p.dat (.str _))⟩
    · cases e
  · obtain ⟨a, us, rfl, rfl, s1, z1, d1⟩ := r1.tup_inv
    obtain ⟨b, ws, rfl, rfl, s2, z2, d2⟩ := r2.tup_inv
    split at e
    · cases e
      rename_i hm
      have l1 := d1.length
      have l2 := d2.length
      refine OpS.use op_catA ⟨a, b, us, ws, rfl, rfl, s1, s2, by omega, fun en => ?_, fun _ en => ?_, fun _ _ c nc => ?_⟩
      · subst en
        cases d1
        exact q _ _ _ _ (p.dat (.tup s2 z2 d2))
      · subst en
        cases d2
        rw [List.append_nil] at q
        exact q _ _ _ _ (p.dat (.tup s1 z1 d1))
      · have k := Kept.fresh (o := .tup (us ++ ws)) nc
        refine q _ _ _ _ ((p.fresh nc).dat (.tup (.inl (.inl upd_same)) (by rw [List.length_append]; omega) ((DRs.keep k _ _ d1).append (DRs.keep k _ _ d2))))
    · cases e
  · split at e
    · rename_i ys zs e1 e2
      split at e
      · cases e
        rename_i hm
        obtain ⟨a, us, M1, rfl, s1, z1, t1, b1⟩ := mut_ok p.good e1 r1
        obtain ⟨b, ws, M2, rfl, s2, z2, t2, b2⟩ := mut_ok p.good e2 r2
        have l1 := t1.length
        have l2 := t2.length
        refine OpS.use op_cat ⟨a, b, us, ws, rfl, rfl, s1, s2, by omega, fun c nc => ?_⟩
        exact q _ _ _ _ (p.newList nc (t1.append t2) (b1.append b2) (by rw [List.length_append]; omega))
      · cases e
    · cases e
  · cases e
theorem un_ok {o : UOp} (p : Psts X.K B α0 H0 α H h [x] [u] L) (e : unV o x h = some (z, h')) (q : Wnt X.K B α0 H0 z h' Q) : UnS X (unaryOp o.op) u H Q := by
  have r1 := p.one
  unfold unV at e
  split at e
  · obtain ⟨rfl, rfl⟩ := r1.int_inv
    cases e
    exact UnS.use un_neg ⟨_, rfl, q _ _ _ _ (p.dat (.int _))⟩
  · obtain ⟨rfl, rfl⟩ := r1.int_inv
    cases e
    exact UnS.use un_inv ⟨_, rfl, q _ _ _ _ (p.dat (.int _))⟩
  · cases e
end
end Pe
/-! Pe: comparisons, subscripts, slices, built-ins, methods, stores. -/
namespace Pe
open PySem PySem.Spec PyProof.Rows L2

section
variable {X : Cx} {B : List Nat} {α0 α : List Addr} {H0 H : Hp} {h h' : Hs} {x y z v : PV} {u w vv : V} {L M : List Addr} {Q : VK}
theorem eqPy_some {a b : PyData} {r : Bool} (e : eqPy a b = some r) : SeqAt.shaped a = true ∧ SeqAt.shaped b = true ∧ r = PyData.eqv a b := by
  unfold eqPy at e
  split at e
  · rename_i hs
    rw [Bool.and_eq_true] at hs
    cases e
    exact ⟨hs.1, hs.2, rfl⟩
  · cases e
theorem eqV_some {K : PySem.W.Frag} {r : Bool} (g : Good K B α h H) {L1 L2 : List Addr} (r1 : PR K α H x u L1) (r2 : PR K α H y w L2) (e : eqV x y h = some r) :
    ∃ d b, Dp K H u d ∧ Dp K H w b ∧ SeqAt.shaped d = true ∧ SeqAt.shaped b = true ∧ r = PyData.eqv d b := by
  unfold eqV at e
  split at e
  · rename_i a b e1 e2
    obtain ⟨s1, s2, e⟩ := eqPy_some e
    exact ⟨a, b, toPy_ok g r1 e1, toPy_ok g r2 e2, s1, s2, e⟩
  · cases e
theorem in_any (hu : X.A.units + 65 < cLine) {r : Bool} (g : Good X.K B α h H) {L1 L2 : List Addr} (r1 : PR X.K α H x u L1) (r2 : PR X.K α H y w L2) (e : inV x y h = some r) :
    (Q (.bl r) H → OpS X (compareOp .In) u w H Q) ∧ (Q (.bl (!r)) H → OpS X (compareOp .NotIn) u w H Q) := by
  unfold inV at e
  split at e
  · rename_i a ds e1 e2
    split at e
    · rename_i hs
      rw [Bool.and_eq_true] at hs
      cases e
      have d1 := toPy_ok g r1 e1
      have d2 := toPy_ok g r2 e2
      exact ⟨fun q => OpS.use (op_inD hu) ⟨a, ds, d1, d2, hs.1, hs.2, q⟩, fun q => OpS.use (op_notInD hu) ⟨a, ds, d1, d2, hs.1, hs.2, q⟩⟩
    · cases e
  · rename_i a ds e1 e2
    split at e
    · rename_i hs
      rw [Bool.and_eq_true] at hs
      cases e
      have d1 := toPy_ok g r1 e1
      have d2 := toPy_ok g r2 e2
      have hl : SeqAt.shaped (.list ds) = true := hs.2
      refine ⟨fun q pins s σ v t I rv rt => ?_, fun q pins s σ v t I rv rt => ?_⟩
      · obtain ⟨as, c1⟩ := Dp.reads I a _ v d1 rv
        obtain ⟨bs, c2⟩ := Dp.reads I (.tuple ds) _ t d2 rt
        exact SeqAt.in_tuple_reads c2 c1 (SeqAt.canLay_of_shaped hl) (SeqAt.canLay_of_shaped hs.1) (room_in_shaped hs.1 hu) ⟨.bl _, H, I, rfl, q⟩
      · obtain ⟨as, c1⟩ := Dp.reads I a _ v d1 rv
        obtain ⟨bs, c2⟩ := Dp.reads I (.tuple ds) _ t d2 rt
        exact SeqAt.notIn_tuple_reads c2 c1 (SeqAt.canLay_of_shaped hl) (SeqAt.canLay_of_shaped hs.1) (room_in_shaped hs.1 hu) ⟨.bl _, H, I, rfl, q⟩
    · cases e
  · cases e
theorem cmpI_some {p : Int → Int → Bool} {r : Bool} (e : cmpI p x y = some r) : ∃ i j, x = .d (.int i) ∧ y = .d (.int j) ∧ r = p i j := by
  unfold cmpI at e
  split at e
  · cases e; exact ⟨_, _, rfl, rfl, rfl⟩
  · cases e
theorem map_some' {α β : Type} {o : Option α} {f : α → β} {b : β} (e : o.map f = some b) : ∃ a, o = some a ∧ f a = b := by
  cases o with
  | none => cases e
  | some a => cases e; exact ⟨a, rfl, rfl⟩
theorem PR.non_iff {K : PySem.W.Frag} (r : PR K α H x u L) (n : x ≠ .d .non) : u ≠ .non := fun e => by
  subst e
  cases r with
  | d r => cases r; exact n rfl
theorem FDs.val {K : PySem.W.Frag} {k : Key} : ∀ {es : List (Sum Int Str × D)} {kvs : List (Key × V)}, FDs K H es kvs → hasK es k = (valV kvs k).isSome
  | _, _, .nil => rfl
  | _, _, .cons (k := k') h t => by
    have ih := FDs.val (k := k) t
    unfold hasK at ih ⊢
    rw [List.any_cons, ih]
    by_cases e : k' = k
    · rw [valV_pos e, decide_eq_true e]
      rfl
    · rw [valV_neg e, decide_eq_false e, Bool.false_or]
theorem keyD_rel {K : PySem.W.Frag} {x : D} {k : Sum Int Str} {L1 : List Addr} (e : keyD x = some k) (r : PR K α H (.d x) u L1) : u = kV k := by
  cases x with
  | int i => cases e; obtain ⟨rfl, _⟩ := r.int_inv; rfl
  | str s => cases e; obtain ⟨rfl, _⟩ := r.str_inv; rfl
  | non => cases e
  | bl _ => cases e
  | tup _ => cases e
theorem FDs.keys {K : PySem.W.Frag} : ∀ {es : List (Sum Int Str × D)} {kvs : List (Key × V)}, FDs K H es kvs → PRs K α H (es.map fun p => PV.d (dKey p.1)) (kvs.map fun kv => kV kv.1) []
  | _, _, .nil => .nil
  | _, _, .cons (k := k) h t => by
    have one : PR K α H (.d (dKey k)) (kV k) [] := by
      cases k with
      | inl i => exact .d (.int i)
      | inr s => exact .d (.str s)
    exact .cons (L := []) one (FDs.keys t)
theorem inW_any (hu : X.A.units + 65 < cLine) {r : Bool} (g : Good X.K B α h H) {L1 L2 : List Addr} (r1 : PR X.K α H x u L1) (r2 : PR X.K α H y w L2) (e : inW x y h = some r) :
    (Q (.bl r) H → OpS X (compareOp .In) u w H Q) ∧ (Q (.bl (!r)) H → OpS X (compareOp .NotIn) u w H Q) := by
  unfold inW at e
  split at e
  · rename_i es
    split at e
    · rename_i x
      obtain ⟨k, e1, e2⟩ := map_some' e
      have hu1 : X.A.units + 1 < cLine := by omega
      have ek := keyD_rel e1 r1
      cases r2 with
      | @fd _ a kvs o ha rr =>
        have g : DGet H a u (valV kvs k) := .inl ⟨kvs, k, .inr ⟨o, ha⟩, ek, rfl⟩
        have er : r = (valV kvs k).isSome := by rw [← e2]; exact rr.val
        refine ⟨fun q pins s σ v t I rv rt => ?_, fun q pins s σ v t I rv rt => ?_⟩
        · cases rt
          exact d_in hu1 I g rv fun s' I' => ⟨.bl _, H, I', rfl, by rw [← er]; exact q⟩
        · cases rt
          exact d_notIn hu1 I g rv fun s' I' => ⟨.bl _, H, I', rfl, by rw [← er]; exact q⟩
    · cases e
  · exact in_any hu g r1 r2 e
theorem cmp_ok {o : COp} {b : Bool} (hu : X.A.units + 65 < cLine) (p : Psts X.K B α0 H0 α H h [x, y] [u, w] L) (e : cmpV o x y h = some (b, h')) (q : Q (.bl b) H) : OpS X (compareOp o.op) u w H Q := by
  obtain ⟨_, _, L1, L2, e1, rfl, r1, r2⟩ := p.rel.two
  cases e1
  have fin : h' = h → Q (.bl b) H := fun _ => q
  have hu' : X.A.units + 64 < cLine := Nat.lt_of_succ_lt hu
  cases o with
  | eq =>
    obtain ⟨r, e2, e3⟩ := map_some' e
    cases e3
    obtain ⟨d, c, h1, h2, s1, s2, rfl⟩ := eqV_some p.good r1 r2 e2
    exact OpS.use (op_eqD hu') ⟨d, c, h1, h2, s1, s2, fin rfl⟩
  | ne =>
    obtain ⟨r, e2, e3⟩ := map_some' e
    cases e3
    obtain ⟨d, c, h1, h2, s1, s2, rfl⟩ := eqV_some p.good r1 r2 e2
    exact OpS.use (op_neD hu') ⟨d, c, h1, h2, s1, s2, fin rfl⟩
  | lt =>
    obtain ⟨r, e2, e3⟩ := map_some' e
    cases e3
    obtain ⟨i, j, rfl, rfl, rfl⟩ := cmpI_some e2
    obtain ⟨rfl, rfl⟩ := r1.int_inv
    obtain ⟨rfl, rfl⟩ := r2.int_inv
    exact OpS.use op_lt ⟨i, j, rfl, rfl, fin rfl⟩
  | le =>
    obtain ⟨r, e2, e3⟩ := map_some' e
    cases e3
    obtain ⟨i, j, rfl, rfl, rfl⟩ := cmpI_some e2
    obtain ⟨rfl, rfl⟩ := r1.int_inv
    obtain ⟨rfl, rfl⟩ := r2.int_inv
    exact OpS.use op_le ⟨i, j, rfl, rfl, fin rfl⟩
  | gt =>
    obtain ⟨r, e2, e3⟩ := map_some' e
    cases e3
    obtain ⟨i, j, rfl, rfl, rfl⟩ := cmpI_some e2
    obtain ⟨rfl, rfl⟩ := r1.int_inv
    obtain ⟨rfl, rfl⟩ := r2.int_inv
    exact OpS.use op_gt ⟨i, j, rfl, rfl, fin rfl⟩
  | ge =>
    obtain ⟨r, e2, e3⟩ := map_some' e
    cases e3
    obtain ⟨i, j, rfl, rfl, rfl⟩ := cmpI_some e2
    obtain ⟨rfl, rfl⟩ := r1.int_inv
    obtain ⟨rfl, rfl⟩ := r2.int_inv
    exact OpS.use op_ge ⟨i, j, rfl, rfl, fin rfl⟩
  | isN =>
    simp only [cmpV] at e
    split at e
    · cases e
      obtain ⟨d1, rfl⟩ := r1.dat_inv
      obtain ⟨d2, rfl⟩ := r2.dat_inv
      cases d1
      cases d2
      exact OpS.use op_isN ⟨rfl, fin rfl⟩
    · rename_i hn
      cases e
      obtain ⟨d2, rfl⟩ := r2.dat_inv
      cases d2
      have ne := r1.non_iff fun z => hn z
      exact OpS.use op_isN ⟨rfl, by rw [decide_eq_false ne]; exact fin rfl⟩
    · cases e
      obtain ⟨d1, rfl⟩ := r1.dat_inv
      obtain ⟨d2, rfl⟩ := r2.dat_inv
      cases d1
      cases d2
      exact OpS.use op_isBl ⟨_, _, rfl, rfl, fin rfl⟩
    · cases e
  | notN =>
    simp only [cmpV] at e
    split at e
    · cases e
      obtain ⟨d1, rfl⟩ := r1.dat_inv
      obtain ⟨d2, rfl⟩ := r2.dat_inv
      cases d1
      cases d2
      exact OpS.use op_notN ⟨rfl, fin rfl⟩
    · rename_i hn
      cases e
      obtain ⟨d2, rfl⟩ := r2.dat_inv
      cases d2
      have ne := r1.non_iff fun z => hn z
      exact OpS.use op_notN ⟨rfl, by rw [decide_eq_false ne]; exact fin rfl⟩
    · cases e
      obtain ⟨d1, rfl⟩ := r1.dat_inv
      obtain ⟨d2, rfl⟩ := r2.dat_inv
      cases d1
      cases d2
      exact OpS.use op_notBl ⟨_, _, rfl, rfl, fin rfl⟩
    · cases e
  | inn =>
    obtain ⟨r, e2, e3⟩ := map_some' e
    cases e3
    exact (inW_any hu p.good r1 r2 e2).1 (fin rfl)
  | nin =>
    obtain ⟨r, e2, e3⟩ := map_some' e
    cases e3
    exact (inW_any hu p.good r1 r2 e2).2 (fin rfl)

theorem cmpV_same {o : COp} {b : Bool} (e : cmpV o x y h = some (b, h')) : h' = h := by
  cases o <;> simp only [cmpV] at e
  case isN => split at e <;> first | (cases e; rfl) | cases e
  case notN => split at e <;> first | (cases e; rfl) | cases e
  all_goals
    obtain ⟨r, _, e3⟩ := map_some' e
    cases e3
    rfl

/-! ### subscripts -/
theorem atI_rel {K : PySem.W.Frag} {xs : List PV} {us : List V} {k : Int} (r : PRs K α H xs us L) (e : atI xs k = some z) : ∃ w M, atI us k = some w ∧ PR K α H z w M ∧ M.Sublist L := by
  unfold atI at e ⊢
  rw [r.length] at e
  cases q : ixN us.length k with
  | none => rw [q] at e; cases e
  | some j =>
    rw [q] at e
    exact PRs.get r e
theorem idx_ok (p : Psts X.K B α0 H0 α H h [x, y] [u, w] L) (e : idxV x y h = some (z, h')) (q : Wnt X.K B α0 H0 z h' Q) : rIx X.K u w H Q := by
  obtain ⟨_, _, L1, L2, e1, rfl, r1, r2⟩ := p.rel.two
  cases e1
  unfold idxV at e
  split at e
  · obtain ⟨rfl, rfl⟩ := r2.int_inv
    split at e
    · obtain ⟨rfl, rfl⟩ := r1.str_inv
      split at e
      · rename_i hz
        obtain ⟨c, e2, e3⟩ := map_some' e
        cases e3
        exact .inr (.inr ⟨_, _, c, rfl, rfl, hz, e2, q _ _ _ _ (p.dat (.str _))⟩)
      · cases e
    · split at e
      · rename_i xs e2
        obtain ⟨c, e3, e4⟩ := map_some' e
        cases e4
        obtain ⟨a, vs, M, rfl, s, z1, t, b⟩ := seq_ok p.good e2 r1
        obtain ⟨w, N, e5, rz, sb⟩ := atI_rel t e3
        have fin := q _ _ _ _ (p.to rz.ones ((sb.trans b).trans (List.sublist_append_left _ _)))
        rcases s with s | s
        · exact .inl ⟨a, vs, _, w, rfl, rfl, s, e5, fin⟩
        · exact .inr (.inl ⟨a, vs, _, w, rfl, rfl, s, e5, fin⟩)
      · cases e
  · cases e
theorem cutL_length {α : Type} (xs : List α) (lo hi : Option Int) : (cutL xs lo hi).length ≤ xs.length := by
  unfold cutL
  rw [List.length_take, List.length_drop]
  omega
theorem cutL_rel {K : PySem.W.Frag} {xs : List PV} {us : List V} {lo hi : Option Int} (r : PRs K α H xs us L) : ∃ M, PRs K α H (cutL xs lo hi) (cutV us lo hi) M ∧ M.Sublist L := by
  unfold cutL cutV
  rw [r.length]
  obtain ⟨M, r1, s1⟩ := r.drop (HT.sIx us.length 0 lo)
  obtain ⟨N, r2, s2⟩ := r1.take (HT.sIx us.length us.length hi - HT.sIx us.length 0 lo)
  exact ⟨N, r2, s2.trans s1⟩
theorem DRs.drop {K : PySem.W.Frag} : ∀ {xs : List D} {us : List V} (n : Nat), DRs K H xs us → DRs K H (xs.drop n) (us.drop n)
  | _, _, 0, h => h
  | [], _, n + 1, h => by cases h; exact .nil
  | x :: xs, _, n + 1, h => by cases h with | cons h t => exact DRs.drop n t
theorem DRs.take {K : PySem.W.Frag} : ∀ {xs : List D} {us : List V} (n : Nat), DRs K H xs us → DRs K H (xs.take n) (us.take n)
  | _, _, 0, h => .nil
  | [], _, n + 1, h => by cases h; exact .nil
  | x :: xs, _, n + 1, h => by cases h with | cons h t => exact .cons h (DRs.take n t)
theorem cutD_rel {K : PySem.W.Frag} {xs : List D} {us : List V} {lo hi : Option Int} (r : DRs K H xs us) : DRs K H (cutL xs lo hi) (cutV us lo hi) := by
  unfold cutL cutV
  rw [r.length]
  exact (r.drop _).take _
theorem cutL_whole {α : Type} {xs : List α} {lo hi : Option Int} (h : HT.sIx xs.length 0 lo = 0 ∧ HT.sIx xs.length xs.length hi = xs.length) : cutL xs lo hi = xs := by
  unfold cutL
  rw [h.1, h.2]
  simp
def rSlX (K : PySem.W.Frag) : V → Option Int → Option Int → Hp → VK → Prop := fun x lo hi H Q => rSlL K x lo hi H Q ∨ rSlA K x lo hi H Q
theorem sl_any : SlR X (rSlX X.K) := by
  intro pins s σ H x v vl vu lo hi sl Q I rx hs pl pu h
  rcases h with h | h
  · exact sl_list pins s σ H x v vl vu lo hi sl Q I rx hs pl pu h
  · exact sl_tupA pins s σ H x v vl vu lo hi sl Q I rx hs pl pu h
theorem slice_ok {lo hi : Option Int} (p : Psts X.K B α0 H0 α H h [x] [u] L) (e : sliceV x lo hi h = some (z, h')) (q : Wnt X.K B α0 H0 z h' Q) : rSlX X.K u lo hi H Q := by
  have r1 := p.one
  unfold sliceV at e
  split at e
  · cases e
    obtain ⟨a, vs, rfl, rfl, s, z1, r⟩ := r1.tup_inv
    have hl := r.length
    refine .inr ⟨a, vs, rfl, s, fun hw => ?_, fun _ c nc => ?_⟩
    · rw [cutL_whole (by rw [hl]; exact hw)] at q
      exact q _ _ _ _ (p.dat (.tup s z1 r))
    · have k := Kept.fresh (o := .tup (cutV vs lo hi)) nc
      exact q _ _ _ _ ((p.fresh nc).dat (.tup (.inl (.inl upd_same)) (Nat.le_trans (cutL_length _ _ _) z1) (DRs.keep k _ _ (cutD_rel r))))
  · split at e
    · rename_i xs e2
      cases e
      obtain ⟨a, vs, M, rfl, s, z1, t, b⟩ := lst_ok p.good e2 r1
      obtain ⟨N, r2, sb⟩ := cutL_rel (lo := lo) (hi := hi) t
      exact .inl ⟨a, vs, rfl, s, fun c nc => q _ _ _ _ (p.newList nc r2 (sb.trans b) (Nat.le_trans (cutL_length _ _ _) z1))⟩
    · cases e

/-! ### built-ins -/
theorem mkTup_rel {K : PySem.W.Frag} {a : Addr} {xs : List PV} {us : List V} (s : SqT K H a us) (z : xs.length ≤ sizeLine) (r : PRs K α H xs us L) : PR K α H (mkTup xs) (.ref a) L := by
  unfold mkTup
  cases q : allD xs with
  | none => exact .mt s z r
  | some ds =>
    have e := allD_some q
    subst e
    obtain ⟨rd, rfl⟩ := r.to_ds
    exact .d (.tup s (by rw [List.length_map] at z; exact z) rd)
theorem bools_rel {K : PySem.W.Frag} : ∀ {xs : List PV} {us : List V} {L : List Addr} {bs : List Bool}, PRs K α H xs us L → boolsOf xs = some bs → us = bs.map V.bl
  | [], _, _, _, r, e => by cases e; cases r; rfl
  | x :: xs, _, _, _, r, e => by
    obtain ⟨v, ws, M, N, rfl, rfl, r1, t⟩ := r.uncons
    unfold boolsOf at e
    split at e
    · rename_i heq
      cases heq
    · rename_i b r' heq
      cases heq
      split at e
      · rename_i bs' e2
        cases e
        obtain ⟨rfl, _⟩ := r1.bl_inv
        rw [bools_rel t e2]
        rfl
      · cases e
    · cases e
theorem ints_rel {K : PySem.W.Frag} : ∀ {xs : List PV} {us : List V} {L : List Addr} {bs : List Int}, PRs K α H xs us L → intsOf xs = some bs → us = bs.map V.int
  | [], _, _, _, r, e => by cases e; cases r; rfl
  | x :: xs, _, _, _, r, e => by
    obtain ⟨v, ws, M, N, rfl, rfl, r1, t⟩ := r.uncons
    unfold intsOf at e
    split at e
    · rename_i heq
      cases heq
    · rename_i b r' heq
      cases heq
      split at e
      · rename_i bs' e2
        cases e
        obtain ⟨rfl, _⟩ := r1.int_inv
        rw [ints_rel t e2]
        rfl
      · cases e
    · cases e
/-- the built-ins by name -/
def Blt.val : Blt → Value
  | .len => .builtin "len" | .tuple => .type "tuple" | .list => .type "list" | .all => .builtin "all" | .any => .builtin "any" | .sum => .builtin "sum" | .int => .type "int" | .abs => .builtin "abs" | .max => .builtin "max" | .min => .builtin "min" | .sorted => .builtin "sorted" | .isi _ => .builtin "isinstance"
theorem maxI_spec : ∀ (n : Int) (ns : List Int), maxI n ns ∈ n :: ns ∧ ∀ y ∈ n :: ns, y ≤ maxI n ns
  | n, [] => ⟨List.mem_cons_self, fun y hy => by rw [List.mem_singleton.mp hy]; exact Int.le_refl _⟩
  | n, x :: ns => by
    have e : maxI n (x :: ns) = maxI (if n < x then x else n) ns := rfl
    obtain ⟨h1, h2⟩ := maxI_spec (if n < x then x else n) ns
    rw [e]
    have h3 := h2 _ List.mem_cons_self
    generalize maxI (if n < x then x else n) ns = m at h1 h2 h3 ⊢
    refine ⟨?_, fun y hy => ?_⟩
    · rcases List.mem_cons.mp h1 with q | q
      · rw [q]
        split
        · exact List.mem_cons_of_mem _ List.mem_cons_self
        · exact List.mem_cons_self
      · exact List.mem_cons_of_mem _ (List.mem_cons_of_mem _ q)
    · rcases List.mem_cons.mp hy with rfl | hy
      · split at h3 <;> omega
      · rcases List.mem_cons.mp hy with rfl | hy
        · split at h3 <;> omega
        · exact h2 y (List.mem_cons_of_mem _ hy)
theorem minI_spec : ∀ (n : Int) (ns : List Int), minI n ns ∈ n :: ns ∧ ∀ y ∈ n :: ns, minI n ns ≤ y
  | n, [] => ⟨List.mem_cons_self, fun y hy => by rw [List.mem_singleton.mp hy]; exact Int.le_refl _⟩
  | n, x :: ns => by
    have e : minI n (x :: ns) = minI (if x < n then x else n) ns := rfl
    obtain ⟨h1, h2⟩ := minI_spec (if x < n then x else n) ns
    rw [e]
    have h3 := h2 _ List.mem_cons_self
    generalize minI (if x < n then x else n) ns = m at h1 h2 h3 ⊢
    refine ⟨?_, fun y hy => ?_⟩
    · rcases List.mem_cons.mp h1 with q | q
      · rw [q]
        split
        · exact List.mem_cons_of_mem _ List.mem_cons_self
        · exact List.mem_cons_self
      · exact List.mem_cons_of_mem _ (List.mem_cons_of_mem _ q)
    · rcases List.mem_cons.mp hy with rfl | hy
      · split at h3 <;> omega
      · rcases List.mem_cons.mp hy with rfl | hy
        · split at h3 <;> omega
        · exact h2 y (List.mem_cons_of_mem _ hy)
theorem sortI_perm (ns : List Int) : (sortI ns).Perm ns := List.mergeSort_perm _ _
theorem sortI_sorted (ns : List Int) : (sortI ns).Pairwise (· ≤ ·) := by
  have := List.pairwise_mergeSort (le := fun a b : Int => decide (a ≤ b)) (fun a b c h1 h2 => by
    rw [decide_eq_true_eq] at *
    omega) (fun a b => by
    rw [Bool.or_eq_true, decide_eq_true_eq, decide_eq_true_eq]
    omega) ns
  exact this.imp fun h => of_decide_eq_true h
theorem drs_ints {K : PySem.W.Frag} {H : Hp} : ∀ ns : List Int, DRs K H (ns.map D.int) (ns.map V.int)
  | [] => .nil
  | n :: ns => .cons (.int n) (drs_ints ns)
theorem blt_ok {b : Blt} {xs : List PV} {us : List V} (hc : X.calm = true) (ni : ∀ ts, b ≠ .isi ts) (p : Psts X.K B α0 H0 α H h xs us L) (e : bltV b xs h = some (z, h')) (q : Wnt X.K B α0 H0 z h' Q) : CallS X b.val us H Q := by
  unfold bltV at e
  split at e
  · -- len of a text
    split at e
    · rename_i hz
      cases e
      obtain ⟨_, _, M, N, rfl, rfl, r1, t⟩ := p.rel.uncons
      cases t
      obtain ⟨rfl, rfl⟩ := r1.str_inv
      exact CallS.use call_len_str ⟨_, rfl, hz, q _ _ _ _ (p.dat (.int _))⟩
    · cases e
  · split at e
    · rename_i ys e2
      cases e
      obtain ⟨_, _, M, N, rfl, rfl, r1, t⟩ := p.rel.uncons
      cases t
      obtain ⟨a, vs, M2, rfl, s, z1, t, b⟩ := seq_ok p.good e2 r1
      have hl := t.length
      refine CallS.use call_len_seq ⟨a, vs, rfl, s, ?_⟩
      rw [← hl]
      exact q _ _ _ _ (p.dat (.int _))
    · cases e
  · split at e
    · rename_i ys e2
      cases e
      obtain ⟨_, _, M, N, rfl, rfl, r1, t⟩ := p.rel.uncons
      cases t
      obtain ⟨a, vs, M2, rfl, s, z1, t, b⟩ := seq_ok p.good e2 r1
      have sb := b.trans (List.sublist_append_left M [])
      refine CallS.use call_tuple_of ⟨a, vs, rfl, ?_⟩
      rcases s with s | s
      · refine .inl ⟨s, fun c nc => ?_⟩
        have k := Kept.fresh (o := .tup vs) nc
        have p1 := (p.to t sb).fresh (o := .tup vs) nc
        exact q _ _ _ _ (p1.to (mkTup_rel (.inl (.inl upd_same)) z1 p1.rel).ones (List.Sublist.refl _))
      · exact .inr ⟨s, q _ _ _ _ (p.to (mkTup_rel s z1 t).ones sb)⟩
    · cases e
  · split at e
    · rename_i hz
      cases e
      obtain ⟨_, _, M, N, rfl, rfl, r1, t⟩ := p.rel.uncons
      cases t
      cases r1 with
      | @fd es a kvs o ha rr =>
        refine CallS.use (call_listD hc) ⟨a, kvs, rfl, .inr ⟨o, ha⟩, fun c nc => ?_⟩
        exact q _ _ _ _ (p.newList nc rr.keys (List.nil_sublist _) (by rw [List.length_map]; exact hz))
    · cases e
  · split at e
    · rename_i ys e2
      cases e
      obtain ⟨_, _, M, N, rfl, rfl, r1, t⟩ := p.rel.uncons
      cases t
      obtain ⟨a, vs, M2, rfl, s, z1, t, b⟩ := seq_ok p.good e2 r1
      exact CallS.use call_list_of ⟨a, vs, rfl, s, fun c nc => q _ _ _ _ (p.newList nc t (b.trans (List.sublist_append_left M [])) z1)⟩
    · cases e
  · split at e
    · rename_i ys e2
      obtain ⟨bs, e3, e4⟩ := map_some' e
      cases e4
      obtain ⟨_, _, M, N, rfl, rfl, r1, t⟩ := p.rel.uncons
      cases t
      obtain ⟨a, vs, M2, rfl, s, z1, t, b⟩ := lst_ok p.good e2 r1
      have ev := bools_rel t e3
      subst ev
      exact CallS.use (cr_all hc) ⟨a, bs, rfl, s, q _ _ _ _ (p.dat (.bl _))⟩
    · cases e
  · split at e
    · rename_i ys e2
      obtain ⟨bs, e3, e4⟩ := map_some' e
      cases e4
      obtain ⟨_, _, M, N, rfl, rfl, r1, t⟩ := p.rel.uncons
      cases t
      obtain ⟨a, vs, M2, rfl, s, z1, t, b⟩ := lst_ok p.good e2 r1
      have ev := bools_rel t e3
      subst ev
      exact CallS.use (cr_any hc) ⟨a, bs, rfl, s, q _ _ _ _ (p.dat (.bl _))⟩
    · cases e
  · split at e
    · rename_i ys e2
      obtain ⟨bs, e3, e4⟩ := map_some' e
      cases e4
      obtain ⟨_, _, M, N, rfl, rfl, r1, t⟩ := p.rel.uncons
      cases t
      obtain ⟨a, vs, M2, rfl, s, z1, t, b⟩ := lst_ok p.good e2 r1
      have ev := ints_rel t e3
      subst ev
      exact CallS.use (cr_sum hc) ⟨a, bs, rfl, s, q _ _ _ _ (p.dat (.int _))⟩
    · cases e
  · cases e
    obtain ⟨_, _, M, N, rfl, rfl, r1, t⟩ := p.rel.uncons
    cases t
    obtain ⟨rfl, rfl⟩ := r1.int_inv
    exact CallS.use call_int1 (.inl ⟨_, rfl, q _ _ _ _ (p.dat (.int _))⟩)
  · cases e
    obtain ⟨_, _, M, N, rfl, rfl, r1, t⟩ := p.rel.uncons
    cases t
    obtain ⟨rfl, rfl⟩ := r1.bl_inv
    exact CallS.use call_int1 (.inr ⟨_, rfl, q _ _ _ _ (p.dat (.int _))⟩)
  · cases e
    obtain ⟨_, _, M, N, rfl, rfl, r1, t⟩ := p.rel.uncons
    cases t
    obtain ⟨rfl, rfl⟩ := r1.int_inv
    exact CallS.use call_abs ⟨_, rfl, q _ _ _ _ (p.dat (.int _))⟩
  · cases e
    obtain ⟨_, _, M, N, rfl, rfl, r1, r2⟩ := p.rel.two
    obtain ⟨rfl, rfl⟩ := r1.int_inv
    obtain ⟨rfl, rfl⟩ := r2.int_inv
    exact CallS.use (call_max2 hc) ⟨_, _, rfl, q _ _ _ _ (p.dat (.int _))⟩
  · split at e
    · rename_i ys e2
      split at e
      · rename_i n ns e3
        cases e
        obtain ⟨_, _, M, N, rfl, rfl, r1, t⟩ := p.rel.uncons
        cases t
        obtain ⟨a, vs, M2, rfl, s, z1, t, b⟩ := lst_ok p.good e2 r1
        have ev := ints_rel t e3
        subst ev
        refine CallS.use (cr_max hc) ⟨a, n :: ns, rfl, s, by simp, fun m h1 h2 => ?_⟩
        have : m = maxI n ns := Int.le_antisymm ((maxI_spec n ns).2 m h1) (h2 _ (maxI_spec n ns).1)
        rw [this]
        exact q _ _ _ _ (p.dat (.int _))
      · cases e
    · cases e
  · cases e
    obtain ⟨_, _, M, N, rfl, rfl, r1, r2⟩ := p.rel.two
    obtain ⟨rfl, rfl⟩ := r1.int_inv
    obtain ⟨rfl, rfl⟩ := r2.int_inv
    exact CallS.use (call_min2 hc) ⟨_, _, rfl, q _ _ _ _ (p.dat (.int _))⟩
  · split at e
    · rename_i ys e2
      split at e
      · rename_i n ns e3
        cases e
        obtain ⟨_, _, M, N, rfl, rfl, r1, t⟩ := p.rel.uncons
        cases t
        obtain ⟨a, vs, M2, rfl, s, z1, t, b⟩ := lst_ok p.good e2 r1
        have ev := ints_rel t e3
        subst ev
        refine CallS.use (cr_min hc) ⟨a, n :: ns, rfl, s, by simp, fun m h1 h2 => ?_⟩
        have : m = minI n ns := Int.le_antisymm (h2 _ (minI_spec n ns).1) ((minI_spec n ns).2 m h1)
        rw [this]
        exact q _ _ _ _ (p.dat (.int _))
      · cases e
    · cases e
  · split at e
    · rename_i ys e2
      obtain ⟨ns, e3, e4⟩ := map_some' e
      cases e4
      obtain ⟨_, _, M, N, rfl, rfl, r1, t⟩ := p.rel.uncons
      cases t
      obtain ⟨a, vs, M2, rfl, s, z1, t, b⟩ := lst_ok p.good e2 r1
      have hl := t.length
      have ev := ints_rel t e3
      subst ev
      refine CallS.use cr_sortedI ⟨a, ns, rfl, s, fun ns' c h1 h2 nc => ?_⟩
      have : ns' = sortI ns := List.Perm.eq_of_pairwise (le := fun a b : Int => a ≤ b) (fun a b _ _ h1 h2 => Int.le_antisymm h1 h2) h2 (sortI_sorted ns) (h1.trans (sortI_perm ns).symm)
      subst this
      have eq2 : (sortI ns).map (fun i => PV.d (.int i)) = ((sortI ns).map D.int).map PV.d := by rw [List.map_map]; rfl
      rw [eq2] at q
      refine q _ _ _ _ (p.newList nc (PRs.of_ds (drs_ints _)) (List.nil_sublist _) ?_)
      rw [List.length_map, List.length_map, (sortI_perm ns).length_eq]
      rw [List.length_map] at hl
      omega
    · cases e
  · exact absurd rfl (ni _)
  · cases e

/-! ### isinstance -/
def Ty.nm : Ty → String
  | .int => "int" | .bool => "bool" | .str => "str" | .tuple => "tuple" | .list => "list"
def tyNm : PV → String
  | .d .non => "NoneType" | .d (.bl _) => "bool" | .d (.int _) => "int" | .d (.str _) => "str" | .d (.tup _) => "tuple"
  | .fd _ => "dict" | .rg _ => "range" | .mt _ => "tuple" | .tl _ => "list" | .fl _ => "list" | .ref _ => "list"
theorem kit_tab (x : PV) (nr : isRg x = false) (t : Ty) : kitB (tyNm x) t.nm = some (tyIs h x t) := by
  have e : ∀ (a : String) (t : Ty), a ∈ ["NoneType", "bool", "int", "str", "tuple", "list"] → kitB a t.nm = some (a == t.nm || (a == "bool" && t.nm == "int")) := by
    intro a t ha
    simp only [List.mem_cons, List.not_mem_nil, or_false] at ha
    rcases ha with rfl | rfl | rfl | rfl | rfl | rfl <;> cases t <;> decide +kernel
  cases x with
  | d x => cases x <;> rw [e _ t (by simp [tyNm])] <;> cases t <;> rfl
  | tl _ => rw [e _ t (by simp [tyNm])]; cases t <;> rfl
  | fl _ => rw [e _ t (by simp [tyNm])]; cases t <;> rfl
  | ref _ => rw [e _ t (by simp [tyNm])]; cases t <;> rfl
  | mt _ => rw [e _ t (by simp [tyNm])]; cases t <;> rfl
  | rg _ => cases nr
  | fd _ => cases nr
theorem sqt_ty {K : PySem.W.Frag} {a : Addr} {us : List V} (s : SqT K H a us) : TyX K H (.ref a) (.type "tuple") := by
  rcases s with (s | ⟨o, s⟩) | ⟨o, its, n, k, c, _⟩
  · exact .base (.tup s)
  · exact .fTuple s
  · exact .kTuple k c
theorem ty_rel {K : PySem.W.Frag} (nr : isRg x = false) (g : Good K B α h H) (r : PR K α H x u L) : TyX K H u (.type (tyNm x)) := by
  cases r with
  | d r =>
    cases r with
    | non => exact .base .non
    | bl b => exact .base (.bl b)
    | int i => exact .base (.int i)
    | str s => exact .base (.str s)
    | tup s z r => exact sqt_ty s
  | tl h z r => exact .base (.lst h)
  | fl h z r =>
    rcases h with ⟨o, h⟩ | ⟨o, its, n, k, c, _⟩
    · exact .base (.frz h)
    · exact .kList k c
  | ref q =>
    obtain ⟨n, xs, vs, _, _, e⟩ := g.of_addr (List.mem_of_getElem? q)
    exact .base (.lst e)
  | mt s z r => exact sqt_ty s
  | rg _ _ _ => cases nr
  | fd _ _ => cases nr
theorem isi_one {t : Ty} (nr : isRg x = false) (p : Psts X.K B α0 H0 α H h [x] [u] L) (q : Q (.bl (tyIs h x t)) H) : CallS X (.builtin "isinstance") [u, .ty t.nm] H Q :=
  CallS.use call_isi ⟨u, .ty t.nm, .type (tyNm x), .type t.nm, tyIs h x t, rfl, .ty _, ty_rel nr p.good p.one, kit_ty (kit_tab x nr t), q⟩
theorem kit_many {K : PySem.W.Frag} (nr : isRg x = false) : ∀ ts : List Ty, PySem.W.kitAny K (.type (tyNm x)) (ts.map fun t => .type t.nm) = some (ts.any fun t => tyIs h x t)
  | [] => rfl
  | t :: ts => by
    refine kitAny_cons (kit_ty (kit_tab (h := h) x nr t)) (fun e => ?_) fun e => ?_
    · rw [List.any_cons, e, Bool.false_or]
      exact kit_many nr ts
    · rw [List.any_cons, e, Bool.true_or]
theorem isi_many {ts : List Ty} {tp : Addr} (nr : isRg x = false) (p : Psts X.K B α0 H0 α H h [x] [u] L) (ht : H tp = some (.tup (ts.map fun t => .ty t.nm))) (q : Q (.bl (ts.any fun t => tyIs h x t)) H) : CallS X (.builtin "isinstance") [u, .ref tp] H Q :=
  CallS.use call_isiT ⟨u, tp, _, .type (tyNm x), ts.map fun t => .type t.nm, _, rfl, ht, by
    have k : ∀ ts : List Ty, Paired ClsV (ts.map fun t => V.ty t.nm) (ts.map fun t => Value.type t.nm) := fun ts => by
      induction ts with
      | nil => exact .nil
      | cons t r ih => exact .cons (.ty _) ih
    exact k ts, ty_rel nr p.good p.one, kit_many nr ts, q⟩
end
end Pe
/-! Pe: methods of lists, stores to places of lists. -/
namespace Pe
open PySem PySem.Spec PyProof.Rows L2

section
variable {X : Cx} {B : List Nat} {fb : Nat} {α0 α : List Addr} {H0 H : Hp} {h h' : Hs} {x y z v : PV} {u w vv : V} {L M : List Addr} {Q : VK}
theorem store_lt {K : PySem.W.Frag} {n : Nat} (hB : ∀ b ∈ B, b ≤ fb) (e : storeOk fb n v = true) : ∀ b ∈ B, n < b → PV.lt b v := fun b hb hn => by
  unfold storeOk at e
  split at e
  · trivial
  · have h1 := of_decide_eq_true e
    have h2 := hB b hb
    omega
/-- what a method of a list asks and gives -/
def rMth (K : PySem.W.Frag) (m : Mth) : V → List V → Hp → VK → Prop := match m with
  | .append => rAppend | .pop => rPop | .reverse => rReverse | .extend => rExtend | .popAt => rPopAt | .index => rIndexD K
def Mth.id : Mth → String
  | .append => "list.append" | .pop => "list.pop" | .reverse => "list.reverse" | .extend => "list.extend" | .popAt => "list.pop" | .index => "list.index"
def Mth.nm : Mth → Str
  | .append => "append" | .pop => "pop" | .reverse => "reverse" | .extend => "extend" | .popAt => "pop" | .index => "index"
theorem mth_rule (hu : X.A.units + 65 < cLine) (m : Mth) : MtR X m.id (rMth X.K m) := by
  cases m with
  | append => exact mt_append
  | pop => exact mt_pop
  | reverse => exact mt_reverse
  | extend => exact mt_extend
  | popAt => exact mt_popAt
  | index => exact mt_indexD hu
theorem lts_map_d {b : Nat} (ds : List D) : PV.lts b (ds.map .d) := PV.lts_iff.mpr fun x hx => by
  obtain ⟨d, _, rfl⟩ := List.mem_map.mp hx
  trivial
theorem findIdx_spec {ds : List PyData} {f : PyData → Bool} {j : Nat} (e : ds.findIdx? f = some j) : ∃ z, ds[j]? = some z ∧ f z = true ∧ ∀ (m : Nat) (z' : PyData), m < j → ds[m]? = some z' → f z' = false := by
  rw [List.findIdx?_eq_some_iff_getElem] at e
  obtain ⟨hj, h1, h2⟩ := e
  refine ⟨ds[j], List.getElem?_eq_getElem hj, h1, fun m z' hm hz => ?_⟩
  have := h2 m hm
  obtain ⟨hm2, e⟩ := List.getElem?_eq_some_iff.mp hz
  rw [← e]
  simpa using this
theorem mth_ok {m : Mth} {ys : List PV} {us : List V} (hB : ∀ b ∈ B, b ≤ fb) (p : Psts X.K B α0 H0 α H h (x :: ys) (u :: us) L) (e : mthV fb m x ys h = some (z, h')) (q : Wnt X.K B α0 H0 z h' Q) : rMth X.K m u us H Q := by
  obtain ⟨_, _, L1, L2, e1, rfl, r1, r2⟩ := p.rel.uncons
  cases e1
  unfold mthV at e
  split at e
  · -- append
    rename_i n v
    cases r1 with
    | @ref _ a ea =>
    obtain ⟨vv, ws, M, N, rfl, rfl, rv, t⟩ := r2.uncons
    cases t
    have pv : Psts X.K B α0 H0 α H h [v] [vv] M := p.to rv.ones (by simp)
    obtain ⟨α', p1, hix, _⟩ := pv.conv
    split at e
    rename_i v' h1 hc
    rw [hc] at p1
    split at e
    · rename_i xs e2
      split at e
      · rename_i hs
        rw [Bool.and_eq_true, decide_eq_true_eq] at hs
        cases e
        obtain ⟨vs, e3, z1, t1⟩ := p1.good.cell n xs a e2 (hix n a ea)
        have hl := t1.length
        obtain ⟨g2, s2⟩ := p1.good.write (ys := xs ++ [v']) (ws := vs ++ [vv]) e2 (hix n a ea) (by rw [List.length_append]; exact hs.2) (t1.append (L := []) p1.one.ones)
          fun b hb hn => lts_append ((p1.good.wf b hb).2 n _ hn e2) ⟨store_lt (K := X.K) hB hs.1 b hb hn, trivial⟩
        exact ⟨a, vs, vv, rfl, rfl, e3, by rw [← hl]; exact hs.2, q _ _ _ _ ((p1.later s2 g2).dat .non)⟩
      · cases e
    · cases e
  · -- pop
    rename_i n
    cases r1 with
    | @ref _ a ea =>
    cases r2
    split at e
    · rename_i xs e2
      split at e
      · rename_i y e3
        cases e
        obtain ⟨vs, e4, z1, t1⟩ := p.good.cell n xs a e2 ea
        have hl := t1.length
        obtain ⟨w, N, e5, rz, sb⟩ := t1.get e3
        have en : N = [] := List.sublist_nil.mp sb
        subst en
        obtain ⟨N2, t2, sb2⟩ := t1.dropLast
        have en : N2 = [] := List.sublist_nil.mp sb2
        subst en
        obtain ⟨g2, s2⟩ := p.good.write e2 ea (by rw [List.length_dropLast]; omega) t2 fun b hb hn => lts_sub ((p.good.wf b hb).2 n _ hn e2) fun x hx => List.dropLast_subset _ hx
        have p1 := p.to rz.ones (List.nil_sublist _)
        exact ⟨a, vs, w, rfl, rfl, e4, by rw [← hl]; exact e5, q _ _ _ _ (p1.later s2 g2)⟩
      · cases e
    · cases e
  · -- reverse
    rename_i n
    cases r1 with
    | @ref _ a ea =>
    cases r2
    split at e
    · rename_i xs e2
      cases e
      obtain ⟨vs, e4, z1, t1⟩ := p.good.cell n xs a e2 ea
      obtain ⟨N2, t2, sb2⟩ := t1.reverse
      have en : N2 = [] := List.perm_nil.mp sb2
      subst en
      obtain ⟨g2, s2⟩ := p.good.write e2 ea (by rw [List.length_reverse]; exact z1) t2 fun b hb hn => lts_sub ((p.good.wf b hb).2 n _ hn e2) fun x hx => List.mem_reverse.mp hx
      exact ⟨a, vs, rfl, rfl, e4, q _ _ _ _ ((p.later s2 g2).dat .non)⟩
    · cases e
  · -- extend
    rename_i n v
    cases r1 with
    | @ref _ a ea =>
    obtain ⟨vv, ws, M, N, rfl, rfl, rv, t⟩ := r2.uncons
    cases t
    split at e
    · rename_i ys xs e2 e3
      split at e
      · rename_i ds hd
        split at e
        · rename_i hz
          cases e
          have ed := allD_some hd
          subst ed
          obtain ⟨b, vs2, M2, rfl, e4, z2, t2, sb⟩ := mut_ok p.good e2 rv
          obtain ⟨rd, rfl⟩ := t2.to_ds
          obtain ⟨vs, e5, z1, t1⟩ := p.good.cell n xs a e3 ea
          have l1 := t1.length
          have l2 := t2.length
          obtain ⟨g2, s2⟩ := p.good.write (ws := vs ++ vs2) e3 ea (by rw [List.length_append]; exact hz) (t1.append (L := []) t2) fun b hb hn => lts_append ((p.good.wf b hb).2 n _ hn e3) (lts_map_d ds)
          exact ⟨a, b, vs, vs2, rfl, rfl, e5, e4, by omega, q _ _ _ _ ((p.later s2 g2).dat .non)⟩
        · cases e
      · cases e
    · cases e
  · -- pop of a place
    rename_i n k
    cases r1 with
    | @ref _ a ea =>
    obtain ⟨vv, ws, M, N, rfl, rfl, rv, t⟩ := r2.uncons
    cases t
    obtain ⟨rfl, rfl⟩ := rv.int_inv
    split at e
    · rename_i xs e2
      split at e
      · rename_i j ej
        split at e
        · rename_i y e3
          split at e
          · rename_i hk
            cases e
            obtain ⟨vs, e4, z1, t1⟩ := p.good.cell n xs a e2 ea
            have hl := t1.length
            obtain ⟨w, N, e5, rz, sb⟩ := t1.get e3
            have en : N = [] := List.sublist_nil.mp sb
            subst en
            have t2 : PRs X.K α H (xs.eraseIdx j) (vs.eraseIdx j) [] := by
              obtain ⟨M1, u1, s1⟩ := t1.take j
              obtain ⟨M2, u2, s2⟩ := t1.drop (j + 1)
              have q1 : M1 = [] := List.sublist_nil.mp s1
              have q2 : M2 = [] := List.sublist_nil.mp s2
              subst q1 q2
              rw [List.eraseIdx_eq_take_drop_succ, List.eraseIdx_eq_take_drop_succ]
              exact u1.append u2
            obtain ⟨g2, s2⟩ := p.good.write e2 ea (by have := List.length_eraseIdx_le xs j; omega) t2 fun b hb hn => lts_sub ((p.good.wf b hb).2 n _ hn e2) fun x hx => List.mem_of_mem_eraseIdx hx
            have p1 := p.to rz.ones (List.nil_sublist _)
            exact ⟨a, vs, _, j, w, rfl, rfl, e4, hk.1, hk.2, by rw [← hl]; exact (ixN_seq ej).1, e5, q _ _ _ _ (p1.later s2 g2)⟩
          · cases e
        · cases e
      · cases e
    · cases e
  · -- index
    rename_i n y
    obtain ⟨vv, ws, M, N, rfl, rfl, rv, t⟩ := r2.uncons
    cases t
    split at e
    · rename_i ds d e1 e2
      split at e
      · rename_i hs
        rw [Bool.and_eq_true] at hs
        split at e
        · rename_i j ej
          cases e
          obtain ⟨z, hz, hzj, hno⟩ := findIdx_spec ej
          cases r1 with
          | @ref _ a ea =>
          exact ⟨a, vv, d, ds, j, z, rfl, rfl, toPy_ok p.good (.ref ea) e1, toPy_ok p.good rv e2, hs.1, hs.2, hz, hzj, hno, q _ _ _ _ (p.dat (.int _))⟩
        · cases e
      · cases e
    · cases e
  · -- index of an own list
    rename_i xs y
    obtain ⟨vv, ws, M, N, rfl, rfl, rv, t⟩ := r2.uncons
    cases t
    split at e
    · rename_i ds d e1 e2
      split at e
      · rename_i hs
        rw [Bool.and_eq_true] at hs
        split at e
        · rename_i j ej
          cases e
          obtain ⟨z, hz, hzj, hno⟩ := findIdx_spec ej
          have e1 := toPy_ok p.good r1 e1
          cases r1 with
          | @tl a _ _ _ ea _ _ =>
          exact ⟨a, vv, d, ds, j, z, rfl, rfl, e1, toPy_ok p.good rv e2, hs.1, hs.2, hz, hzj, hno, q _ _ _ _ (p.dat (.int _))⟩
        · cases e
      · cases e
    · cases e
  · cases e
/-- a list's place is stored -/
theorem set_ok {Qh : Hp → Prop} (hB : ∀ b ∈ B, b ≤ fb) (p : Psts X.K B α0 H0 α H h [v, x, y] [vv, u, w] L) (e : setV fb x y v h = some ((), h')) (q : ∀ α H, Step α0 H0 α H → Good X.K B α h' H → Qh H) : rSetL u w vv H Qh := by
  obtain ⟨_, _, _, L1, L2, L3, e1, rfl, rv, r1, r2⟩ := p.rel.three
  cases e1
  unfold setV at e
  split at e
  · rename_i n k
    cases r1 with
    | @ref _ a ea =>
    obtain ⟨rfl, rfl⟩ := r2.int_inv
    have pv : Psts X.K B α0 H0 α H h [v] [vv] L1 := p.to rv.ones (by simp)
    obtain ⟨α', p1, hix, _⟩ := pv.conv
    split at e
    rename_i v' h1 hc
    rw [hc] at p1
    split at e
    · rename_i xs e2
      split at e
      · rename_i j ej
        split at e
        · rename_i hs
          cases e
          obtain ⟨vs, e3, z1, t1⟩ := p1.good.cell n xs a e2 (hix n a ea)
          have hl := t1.length
          obtain ⟨g2, s2⟩ := p1.good.write (ys := xs.set j v') (ws := vs.set j vv) e2 (hix n a ea) (by rw [List.length_set]; exact z1) (t1.set j p1.one)
            fun b hb hn => lts_set ((p1.good.wf b hb).2 n _ hn e2) (store_lt (K := X.K) hB hs b hb hn)
          exact ⟨a, vs, k, j, rfl, rfl, e3, by rw [← hl]; exact ej, q _ _ (p1.step.trans s2) g2⟩
        · cases e
      · cases e
    · cases e
  · cases e
end
end Pe
/-! Pe: the readings that the evaluator gives, rule by rule. -/
namespace Pe
open PySem PySem.Spec PyProof.Rows L2

structure EnvR (K : PySem.W.Frag) (α : List Addr) (H : Hp) (env : Env) (σ : L2.St) : Prop where
  len : env.length = σ.length
  get : ∀ (i : Nat) (x : PV), env[i]? = some (some x) → ∃ v, σ[i]? = some (some v) ∧ PR K α H x v []
section
variable {K : PySem.W.Frag} {B : List Nat} {α α0 α' : List Addr} {H H0 H' : Hp} {h h' : Hs} {env env' : Env} {σ σ' : L2.St}
theorem EnvR.later (er : EnvR K α H env σ) (g : Good K B α h H) (s : Step α H α' H') : EnvR K α' H' env σ :=
  ⟨er.len, fun i x e => by
    obtain ⟨v, e2, r⟩ := er.get i x e
    exact ⟨v, e2, PR.keep (g.kept s) s.ix _ _ _ r fun _ z => absurd z List.not_mem_nil⟩⟩
theorem EnvR.same (er : EnvR K α H env σ) (p : ∀ (n : Nat) a, α[n]? = some a → α'[n]? = some a) : EnvR K α' H env σ :=
  ⟨er.len, fun i x e => by
    obtain ⟨v, e2, r⟩ := er.get i x e
    exact ⟨v, e2, r.same p⟩⟩
theorem EnvR.set {i : Nat} {x : PV} {v : V} (er : EnvR K α H env σ) (r : PR K α H x v []) : EnvR K α H (env.set i (some x)) (σ.set i (some v)) :=
  ⟨by rw [List.length_set, List.length_set]; exact er.len, fun j y e => by
    by_cases hj : i = j
    · subst hj
      by_cases hi : i < env.length
      · rw [List.getElem?_set_self hi] at e
        rw [List.getElem?_set_self (by rw [← er.len]; exact hi)]
        cases e
        exact ⟨v, rfl, r⟩
      · rw [List.getElem?_eq_none (by rw [List.length_set]; omega)] at e
        cases e
    · rw [List.getElem?_set_ne hj] at e ⊢
      exact er.get j y e⟩
theorem EnvR.wipe (er : EnvR K α H env σ) : ∀ own : List Nat, EnvR K α H (wipeE env own) (wipe σ own)
  | [] => er
  | v :: vs => by
    have ih := EnvR.wipe er vs
    unfold wipeE L2.wipe
    refine ⟨by rw [List.length_set, List.length_set]; exact ih.len, fun j y e => ?_⟩
    by_cases hj : v = j
    · subst hj
      by_cases hi : v < (wipeE env vs).length
      · rw [List.getElem?_set_self hi] at e
        cases e
      · rw [List.getElem?_eq_none (by rw [List.length_set]; omega)] at e
        cases e
    · rw [List.getElem?_set_ne hj] at e ⊢
      exact ih.get j y e
theorem bnd_some {α β : Type} {m : M α} {f : α → M β} {h : Hs} {r : β × Hs} (e : M.bnd m f h = some r) : ∃ a h1, m h = some (a, h1) ∧ f a h1 = some r := by
  unfold M.bnd at e
  split at e
  · rename_i a h1 q
    exact ⟨a, h1, q, e⟩
  · cases e
theorem ret_some {α : Type} {a b : α} {h h' : Hs} (e : M.ret a h = some (b, h')) : b = a ∧ h' = h := by
  cases e
  exact ⟨rfl, rfl⟩
theorem boolV_some {x : PV} {b : Bool} (e : boolV x h = some (b, h')) : x = .d (.bl b) ∧ h' = h := by
  unfold boolV at e
  split at e
  · cases e; exact ⟨rfl, rfl⟩
  · cases e
end

/-! ### the readings -/
def tM (K : PySem.W.Frag) (B : List Nat) (m : Env → M PV) : TE := fun σ H Q => ∃ env α h z h', Good K B α h H ∧ EnvR K α H env σ ∧ m env h = some (z, h') ∧ Wnt K B α H z h' Q
def tMs (K : PySem.W.Frag) (B : List Nat) (m : Env → M (List PV)) : TA := fun σ H Q => ∃ env α h zs h', Good K B α h H ∧ EnvR K α H env σ ∧ m env h = some (zs, h') ∧ ∀ α' H' vs L, Psts K B α H α' H' h' zs vs L → Q vs H'
def tMB (K : PySem.W.Frag) (B : List Nat) (m : Env → M Bool) : TT := fun σ H Q => ∃ env α h b h', Good K B α h H ∧ EnvR K α H env σ ∧ m env h = some (b, h') ∧ ∀ α' H', Step α H α' H' → Good K B α' h' H' → Q b H'
theorem peI {X : Cx} {e : Expr} {t t' : TE} (p : PE X e t) (i : ∀ σ H Q, t' σ H Q → t σ H Q) : PE X e t' := ⟨fun pins s σ H Q I h => p.run pins s σ H Q I (i σ H Q h)⟩
theorem ptI {X : Cx} {e : Expr} {t t' : TT} (p : PT X e t) (i : ∀ σ H Q, t' σ H Q → t σ H Q) : PT X e t' := ⟨fun pins s σ H Q I h => p.run pins s σ H Q I (i σ H Q h)⟩
theorem pwI {X : Cx} {e : Expr} {t t' : TT} (p : PW X e t) (i : ∀ σ H Q, t' σ H Q → t σ H Q) : PW X e t' := ⟨fun w pins s σ H Q I h => p.run w pins s σ H Q I (i σ H Q h)⟩
theorem paI {X : Cx} {e : List Expr} {t t' : TA} (p : PA X e t) (i : ∀ σ H Q, t' σ H Q → t σ H Q) : PA X e t' := ⟨fun pos pins s σ H Q I h => p.run pos pins s σ H Q I (i σ H Q h)⟩
theorem psI {X : Cx} {e : Stmt} {t t' : TS} (p : PS X e t) (i : ∀ D σ H, t' D σ H → t D σ H) : PS X e t' := ⟨fun pins s σ H D I h => p.run pins s σ H D I (i D σ H h)⟩
theorem pssI {X : Cx} {e : List Stmt} {t t' : TS} (p : PSs X e t) (i : ∀ D σ H, t' D σ H → t D σ H) : PSs X e t' := ⟨fun pins s σ H D I h => p.run pins s σ H D I (i D σ H h)⟩
theorem pgI {X : Cx} {e : Expr} {t t' : TG} (p : PG X e t) (i : ∀ v σ H Q, t' v σ H Q → t v σ H Q) : PG X e t' := ⟨fun pins s σ H v u Q I r h => p.run pins s σ H v u Q I r (i v σ H Q h)⟩
theorem pgsI {X : Cx} {e : List Expr} {t t' : TGs} (p : PGs X e t) (i : ∀ v σ H Q, t' v σ H Q → t v σ H Q) : PGs X e t' := ⟨fun pins s σ H v u Q I r h => p.run pins s σ H v u Q I r (i v σ H Q h)⟩
theorem piI {X : Cx} {tg e : Expr} {t t' : TI} (p : PI X tg e t) (i : ∀ σ H R, t' σ H R → t σ H R) : PI X tg e t' := ⟨fun pins s σ H R I h => p.run pins s σ H R I (i σ H R h)⟩
theorem piOr {X : Cx} {tg e : Expr} {t t' : TI} (p : PI X tg e t) (p' : PI X tg e t') : PI X tg e (fun σ H R => t σ H R ∨ t' σ H R) := ⟨fun pins s σ H R I h => h.elim (p.run pins s σ H R I) (p'.run pins s σ H R I)⟩

section
variable {X : Cx} {K : PySem.W.Frag} {B : List Nat} {fb : Nat} {a b c : Expr} {ma mb mc : Env → M PV} {pos : Pos}
theorem e_cst_int {i : Int} {j : Nat} : PE X (.Constant (.int i) j pos) (tM K B fun _ => M.ret (.d (.int i))) := peI pe_int fun σ H Q ⟨env, α, h, z, h', g, er, e, q⟩ => by
  obtain ⟨rfl, rfl⟩ := ret_some e
  exact q _ _ _ _ ((Psts.nil g).dat (.int i))
theorem e_cst_bl {i : Bool} {j : Nat} : PE X (.Constant (.bool i) j pos) (tM K B fun _ => M.ret (.d (.bl i))) := peI pe_bl fun σ H Q ⟨env, α, h, z, h', g, er, e, q⟩ => by
  obtain ⟨rfl, rfl⟩ := ret_some e
  exact q _ _ _ _ ((Psts.nil g).dat (.bl i))
theorem e_cst_str {i : Str} {j : Nat} : PE X (.Constant (.str i) j pos) (tM K B fun _ => M.ret (.d (.str i))) := peI pe_str fun σ H Q ⟨env, α, h, z, h', g, er, e, q⟩ => by
  obtain ⟨rfl, rfl⟩ := ret_some e
  exact q _ _ _ _ ((Psts.nil g).dat (.str i))
theorem e_cst_non {j : Nat} : PE X (.Constant .none j pos) (tM K B fun _ => M.ret (.d .non)) := peI pe_non fun σ H Q ⟨env, α, h, z, h', g, er, e, q⟩ => by
  obtain ⟨rfl, rfl⟩ := ret_some e
  exact q _ _ _ _ ((Psts.nil g).dat .non)
theorem e_var {i : Nat} {x : Str} (hN : X.N[i]? = some x) (hv : Vis X.env.scope x) (hd : (x == ("__debug__" : Str)) = false) (hcd : (x == ("__classdict__" : Str)) = false) :
    PE X (.Name x pos) (tM K B fun env => M.of (match env[i]? with
      | some (some v) => some v
      | _ => none)) := peI (pe_var hN hv hd hcd) fun σ H Q ⟨env, α, h, z, h', g, er, e, q⟩ => by
  dsimp only at e
  split at e
  · rename_i v ev
    obtain ⟨rfl, rfl⟩ := ret_some e
    obtain ⟨u, e2, r⟩ := er.get i _ ev
    exact ⟨u, e2, q _ _ _ _ ((Psts.nil g).to r.ones (List.Sublist.refl _))⟩
  · cases e
theorem e_bin {o : BOp} (ha : PE X a (tM X.K B ma)) (hb : PE X b (tM X.K B mb)) : PE X (.BinOp a o.op b pos) (tM X.K B fun env => M.bnd (ma env) fun x => M.bnd (mb env) fun y => binV o x y) :=
  peI (pe_op ops_rule ha hb) fun σ H Q ⟨env, α, h, z, h', g, er, e, q⟩ => by
    obtain ⟨x, h1, e1, e⟩ := bnd_some e
    obtain ⟨y, h2, e2, e3⟩ := bnd_some e
    exact ⟨env, α, h, x, h1, g, er, e1, fun α1 H1 vx Lx p1 => ⟨env, α1, h1, y, h2, p1.good, er.later g p1.step, e2, fun α2 H2 vy Ly p2 => bin_ok (p1.app p2) e3 q⟩⟩
theorem e_un {o : UOp} (ha : PE X a (tM X.K B ma)) : PE X (.UnaryOp o.op a pos) (tM X.K B fun env => M.bnd (ma env) fun x => unV o x) :=
  peI (pe_un uns_rule ha) fun σ H Q ⟨env, α, h, z, h', g, er, e, q⟩ => by
    obtain ⟨x, h1, e1, e⟩ := bnd_some e
    exact ⟨env, α, h, x, h1, g, er, e1, fun α1 H1 vx Lx p1 => un_ok p1 e q⟩
theorem bl_of {α0 α : List Addr} {H0 H : Hp} {h : Hs} {k : Bool} {v : V} {L : List Addr} (p : Psts K B α0 H0 α H h [.d (.bl k)] [v] L) : v = .bl k := p.one.bl_inv.1
theorem e_nt (ha : PE X a (tM K B ma)) : PE X (.UnaryOp .Not a pos) (tM K B fun env => M.bnd (ma env) fun x => M.bnd (boolV x) fun b => M.ret (.d (.bl (!b)))) :=
  peI (pe_not ha) fun σ H Q ⟨env, α, h, z, h', g, er, e, q⟩ => by
    obtain ⟨x, h1, e1, e⟩ := bnd_some e
    obtain ⟨k, h2, e2, e3⟩ := bnd_some e
    obtain ⟨rfl, rfl⟩ := boolV_some e2
    obtain ⟨rfl, rfl⟩ := ret_some e3
    exact ⟨env, α, h, _, _, g, er, e1, fun α1 H1 vx Lx p1 => ⟨k, bl_of p1, q _ _ _ _ (p1.dat (.bl _))⟩⟩
def mAn (ma mb : Env → M PV) : Env → M PV := fun env => M.bnd (ma env) fun x => M.bnd (boolV x) fun c => if c then mb env else M.ret (.d (.bl false))
def mOr (ma mb : Env → M PV) : Env → M PV := fun env => M.bnd (ma env) fun x => M.bnd (boolV x) fun c => if c then M.ret (.d (.bl true)) else mb env
theorem e_an {r : List Expr} (ha : PE X a (tM K B ma)) (hb : PE X (.BoolOp .And (b :: r) pos) (tM K B mb)) : PE X (.BoolOp .And (a :: b :: r) pos) (tM K B (mAn ma mb)) :=
  peI (pe_and ha hb) fun σ H Q ⟨env, α, h, z, h', g, er, e, q⟩ => by
    obtain ⟨x, h1, e1, e⟩ := bnd_some e
    obtain ⟨k, h2, e2, e3⟩ := bnd_some e
    obtain ⟨rfl, rfl⟩ := boolV_some e2
    refine ⟨env, α, h, _, _, g, er, e1, fun α1 H1 vx Lx p1 => ⟨k, bl_of p1, ?_⟩⟩
    cases k with
    | true => exact iteT ⟨env, α1, _, z, h', p1.good, er.later g p1.step, e3, fun α2 H2 v L p2 => q _ _ _ _ ((p1.app p2).to p2.rel (List.sublist_append_right _ _))⟩
    | false =>
      obtain ⟨rfl, rfl⟩ := ret_some e3
      exact iteF (q _ _ _ _ (p1.dat (.bl _)))
theorem e_or {r : List Expr} (ha : PE X a (tM K B ma)) (hb : PE X (.BoolOp .Or (b :: r) pos) (tM K B mb)) : PE X (.BoolOp .Or (a :: b :: r) pos) (tM K B (mOr ma mb)) :=
  peI (pe_or ha hb) fun σ H Q ⟨env, α, h, z, h', g, er, e, q⟩ => by
    obtain ⟨x, h1, e1, e⟩ := bnd_some e
    obtain ⟨k, h2, e2, e3⟩ := bnd_some e
    obtain ⟨rfl, rfl⟩ := boolV_some e2
    refine ⟨env, α, h, _, _, g, er, e1, fun α1 H1 vx Lx p1 => ⟨k, bl_of p1, ?_⟩⟩
    cases k with
    | false => exact iteF ⟨env, α1, _, z, h', p1.good, er.later g p1.step, e3, fun α2 H2 v L p2 => q _ _ _ _ ((p1.app p2).to p2.rel (List.sublist_append_right _ _))⟩
    | true =>
      obtain ⟨rfl, rfl⟩ := ret_some e3
      exact iteT (q _ _ _ _ (p1.dat (.bl _)))
def mCmp (o : COp) (ma mb : Env → M PV) : Env → M PV := fun env => M.bnd (ma env) fun x => M.bnd (mb env) fun y => M.bnd (cmpV o x y) fun c => M.ret (.d (.bl c))
theorem cmp_read {o : COp} (hu : X.A.units + 65 < cLine) {σ : L2.St} {H : Hp} {Q : VK} (t : tM X.K B (mCmp o ma mb) σ H Q) : tOp (OpS X (compareOp o.op)) (tM X.K B ma) (tM X.K B mb) σ H Q := by
  obtain ⟨env, α, h, z, h', g, er, e, q⟩ := t
  obtain ⟨x, h1, e1, e⟩ := bnd_some e
  obtain ⟨y, h2, e2, e⟩ := bnd_some e
  obtain ⟨k, h3, e3, e4⟩ := bnd_some e
  obtain ⟨rfl, rfl⟩ := ret_some e4
  obtain rfl := cmpV_same e3
  exact ⟨env, α, h, x, h1, g, er, e1, fun α1 H1 vx Lx p1 => ⟨env, α1, h1, y, _, p1.good, er.later g p1.step, e2, fun α2 H2 vy Ly p2 => cmp_ok hu (p1.app p2) e3 (q _ _ _ _ ((p1.app p2).dat (.bl _)))⟩⟩
theorem e_cmp {o : COp} (hu : X.A.units + 65 < cLine) (ha : PE X a (tM X.K B ma)) (hb : PE X b (tM X.K B mb)) (hm : behindInMarks o.op b = false) : PE X (.Compare a [o.op] [b] pos) (tM X.K B (mCmp o ma mb)) :=
  peI (pe_cmpR ops_rule ha hb hm) fun σ H Q t => cmp_read hu t
/-- a test of it -/
theorem tM_bl {m : Env → M PV} {σ : L2.St} {H : Hp} {Q : Bool → Hp → Prop} (t : tMB K B (fun env => M.bnd (m env) boolV) σ H Q) : tM K B m σ H fun x H1 => ∃ k, x = .bl k ∧ Q k H1 := by
  obtain ⟨env, α, h, k, h', g, er, e, q⟩ := t
  obtain ⟨x, h1, e1, e2⟩ := bnd_some e
  obtain ⟨rfl, rfl⟩ := boolV_some e2
  exact ⟨env, α, h, _, _, g, er, e1, fun α1 H1 v L p => ⟨k, bl_of p, q _ _ p.step p.good⟩⟩
abbrev mB (m : Env → M PV) : Env → M Bool := fun env => M.bnd (m env) boolV
theorem t_cmp {o : COp} (hu : X.A.units + 65 < cLine) (ha : PE X a (tM X.K B ma)) (hb : PE X b (tM X.K B mb)) (hm : behindInMarks o.op b = false) : PT X (.Compare a [o.op] [b] pos) (tMB X.K B (mB (mCmp o ma mb))) :=
  ptI (pt_cmpR ops_rule ha hb hm) fun σ H Q t => cmp_read hu (tM_bl t)
def mChn (o p : COp) (ma mb mc : Env → M PV) : Env → M PV := fun env => M.bnd (ma env) fun x => M.bnd (mb env) fun y => M.bnd (cmpV o x y) fun k =>
  if k then M.bnd (mc env) fun z => M.bnd (cmpV p y z) fun l => M.ret (.d (.bl l)) else M.ret (.d (.bl false))
theorem chn_read {o p : COp} (hu : X.A.units + 65 < cLine) {σ : L2.St} {H : Hp} {Q : VK} (t : tM X.K B (mChn o p ma mb mc) σ H Q) : tChain (OpS X (compareOp o.op)) (OpS X (compareOp p.op)) (tM X.K B ma) (tM X.K B mb) (tM X.K B mc) σ H Q := by
  obtain ⟨env, α, h, z, h', g, er, e, q⟩ := t
  obtain ⟨x, h1, e1, e⟩ := bnd_some e
  obtain ⟨y, h2, e2, e⟩ := bnd_some e
  obtain ⟨k, h3, e3, e⟩ := bnd_some e
  obtain rfl := cmpV_same e3
  refine ⟨env, α, h, x, h1, g, er, e1, fun α1 H1 vx Lx p1 => ⟨env, α1, h1, y, h3, p1.good, er.later g p1.step, e2, fun α2 H2 vy Ly p2 => ?_⟩⟩
  have p12 := p1.app p2
  have py := p12.to p2.rel (List.sublist_append_right _ _)
  refine cmp_ok hu p12 e3 ⟨k, rfl, ?_⟩
  cases k with
  | false =>
    obtain ⟨rfl, rfl⟩ := ret_some e
    exact iteF (q _ _ _ _ (p12.dat (.bl _)))
  | true =>
    obtain ⟨w, h4, e4, e⟩ := bnd_some e
    obtain ⟨l, h5, e5, e⟩ := bnd_some e
    obtain ⟨rfl, rfl⟩ := ret_some e
    obtain rfl := cmpV_same e5
    refine iteT ⟨env, α2, h3, w, h', p12.good, er.later g p12.step, e4, fun α3 H3 vz Lz p3 => ?_⟩
    have p123 := py.app p3
    exact cmp_ok hu p123 e5 (q _ _ _ _ (p123.dat (.bl _)))
theorem e_chn {o p : COp} (hu : X.A.units + 65 < cLine) (ha : PE X a (tM X.K B ma)) (hb : PE X b (tM X.K B mb)) (hc : PE X c (tM X.K B mc)) (hm : lastMarks [o.op, p.op] [b, c] = false) : PE X (.Compare a [o.op, p.op] [b, c] pos) (tM X.K B (mChn o p ma mb mc)) :=
  peI (pe_chain ops_rule ops_rule ha hb hc hm) fun σ H Q t => chn_read hu t
theorem t_chn {o p : COp} (hu : X.A.units + 65 < cLine) (ha : PE X a (tM X.K B ma)) (hb : PE X b (tM X.K B mb)) (hc : PE X c (tM X.K B mc)) (hm : lastMarks [o.op, p.op] [b, c] = false) : PT X (.Compare a [o.op, p.op] [b, c] pos) (tMB X.K B (mB (mChn o p ma mb mc))) :=
  ptI (pt_chain ops_rule ops_rule ha hb hc hm) fun σ H Q t => chn_read hu (tM_bl t)
theorem t_val (ha : PE X a (tM K B ma)) (he : ∀ whole, PySem.isTrue a X.env whole = (do let v ← whole; standAt a.pos; holding [v] (truthy v))) : PT X a (tMB K B (mB ma)) :=
  ptI (pt_val ha he) fun σ H Q t => tM_bl t
/-- parts of a test -/
theorem t_not (ha : PT X a (tMB K B (mB ma))) : PT X (.UnaryOp .Not a pos) (tMB K B (mB fun env => M.bnd (ma env) fun x => M.bnd (boolV x) fun b => M.ret (.d (.bl (!b))))) :=
  ptI (pt_not ha) fun σ H Q ⟨env, α, h, k, h', g, er, e, q⟩ => by
    obtain ⟨z, h1, e1, e2⟩ := bnd_some e
    obtain ⟨x, h2, e3, e4⟩ := bnd_some e1
    obtain ⟨c, h3, e5, e6⟩ := bnd_some e4
    obtain ⟨rfl, rfl⟩ := boolV_some e2
    obtain ⟨ez, rfl⟩ := ret_some e6
    cases ez
    refine ⟨env, α, h, c, _, g, er, ?_, q⟩
    show M.bnd (ma env) boolV h = _
    unfold M.bnd
    rw [e3]
    exact e5
theorem w_one {op : BoolOp} (ha : PT X a (tMB K B (mB ma))) : PW X (.BoolOp op [a] pos) (tMB K B (mB ma)) := by
  cases op with
  | And => exact pw_and1 ha
  | Or => exact pw_or1 ha
theorem w_an {r : List Expr} (ha : PT X a (tMB K B (mB ma))) (hb : PW X (.BoolOp .And (b :: r) pos) (tMB K B (mB mb))) : PW X (.BoolOp .And (a :: b :: r) pos) (tMB K B (mB (mAn ma mb))) :=
  pwI (pw_and ha hb) fun σ H Q ⟨env, α, h, k, h', g, er, e, q⟩ => by
    obtain ⟨z, h1, e1, e2⟩ := bnd_some e
    obtain ⟨x, h2, e3, e4⟩ := bnd_some e1
    obtain ⟨c, h3, e5, e6⟩ := bnd_some e4
    refine ⟨env, α, h, c, h3, g, er, ?_, fun α1 H1 s1 g1 => ?_⟩
    · show M.bnd (ma env) boolV h = _
      unfold M.bnd
      rw [e3]
      exact e5
    · cases c with
      | true => exact iteT ⟨env, α1, h3, k, h', g1, er.later g s1, by show M.bnd (mb env) boolV h3 = _; unfold M.bnd; rw [show mb env h3 = some (z, h1) from e6]; exact e2, fun α2 H2 s2 g2 => q _ _ (s1.trans s2) g2⟩
      | false =>
        obtain ⟨rfl, rfl⟩ := ret_some e6
        cases e2
        exact iteF (q _ _ s1 g1)
theorem w_or {r : List Expr} (ha : PT X a (tMB K B (mB ma))) (hb : PW X (.BoolOp .Or (b :: r) pos) (tMB K B (mB mb))) : PW X (.BoolOp .Or (a :: b :: r) pos) (tMB K B (mB (mOr ma mb))) :=
  pwI (pw_or ha hb) fun σ H Q ⟨env, α, h, k, h', g, er, e, q⟩ => by
    obtain ⟨z, h1, e1, e2⟩ := bnd_some e
    obtain ⟨x, h2, e3, e4⟩ := bnd_some e1
    obtain ⟨c, h3, e5, e6⟩ := bnd_some e4
    refine ⟨env, α, h, c, h3, g, er, ?_, fun α1 H1 s1 g1 => ?_⟩
    · show M.bnd (ma env) boolV h = _
      unfold M.bnd
      rw [e3]
      exact e5
    · cases c with
      | false => exact iteF ⟨env, α1, h3, k, h', g1, er.later g s1, by show M.bnd (mb env) boolV h3 = _; unfold M.bnd; rw [show mb env h3 = some (z, h1) from e6]; exact e2, fun α2 H2 s2 g2 => q _ _ (s1.trans s2) g2⟩
      | true =>
        obtain ⟨rfl, rfl⟩ := ret_some e6
        cases e2
        exact iteT (q _ _ s1 g1)
theorem e_ifx (hc : PT X c (tMB K B (mB mc))) (ha : PE X a (tM K B ma)) (hb : PE X b (tM K B mb)) : PE X (.IfExp c a b pos) (tM K B fun env => M.bnd (mc env) fun x => M.bnd (boolV x) fun k => if k then ma env else mb env) :=
  peI (pe_ifExp hc ha hb) fun σ H Q ⟨env, α, h, z, h', g, er, e, q⟩ => by
    obtain ⟨x, h1, e1, e⟩ := bnd_some e
    obtain ⟨k, h2, e2, e3⟩ := bnd_some e
    refine ⟨env, α, h, k, h2, g, er, by show M.bnd (mc env) boolV h = _; unfold M.bnd; rw [e1]; exact e2, fun α1 H1 s1 g1 => ?_⟩
    have fin : Wnt K B α1 H1 z h' Q := fun α2 H2 v L p2 => q _ _ _ _ ⟨s1.trans p2.step, p2.good, p2.rel, p2.nd, p2.out, fun a ha => s1.none_back (p2.fr a ha)⟩
    cases k with
    | true => exact iteT ⟨env, α1, h2, z, h', g1, er.later g s1, e3, fin⟩
    | false => exact iteF ⟨env, α1, h2, z, h', g1, er.later g s1, e3, fin⟩

/-! ### arguments, displays, subscripts, calls -/
variable {es : List Expr} {ms : Env → M (List PV)}
theorem a_nil : PA X [] (tMs K B fun _ => M.ret []) := paI pa_nil fun σ H Q ⟨env, α, h, z, h', g, er, e, q⟩ => by
  obtain ⟨rfl, rfl⟩ := ret_some e
  exact q _ _ _ _ (Psts.nil g)
theorem a_cons (ha : PE X a (tM K B ma)) (hr : PA X es (tMs K B ms)) (hs : starEach (a :: es) X.env = (false, eval a X.env) :: starEach es X.env) : PA X (a :: es) (tMs K B fun env => M.bnd (ma env) fun x => M.bnd (ms env) fun xs => M.ret (x :: xs)) :=
  paI (pa_cons ha hr hs) fun σ H Q ⟨env, α, h, z, h', g, er, e, q⟩ => by
    obtain ⟨x, h1, e1, e⟩ := bnd_some e
    obtain ⟨xs, h2, e2, e3⟩ := bnd_some e
    obtain ⟨rfl, rfl⟩ := ret_some e3
    exact ⟨env, α, h, x, h1, g, er, e1, fun α1 H1 vx Lx p1 => ⟨env, α1, h1, xs, h', p1.good, er.later g p1.step, e2, fun α2 H2 vs L p2 => q _ _ _ _ (p1.app p2)⟩⟩
theorem e_tup {x1 : Nat} (h : PA X es (tMs K B ms)) : PE X (.Tuple es x1 pos) (tM K B fun env => M.bnd (ms env) fun xs => if xs.length ≤ sizeLine then M.ret (mkTup xs) else M.no) :=
  peI (pe_tup h) fun σ H Q ⟨env, α, h, z, h', g, er, e, q⟩ => by
    obtain ⟨xs, h1, e1, e⟩ := bnd_some e
    split at e
    · rename_i hz
      obtain ⟨rfl, rfl⟩ := ret_some e
      refine ⟨env, α, h, xs, _, g, er, e1, fun α1 H1 vs L p1 => ⟨by rw [← p1.rel.length]; exact hz, fun c nc => ?_⟩⟩
      have p2 := p1.fresh (o := .tup vs) nc
      exact q _ _ _ _ (p2.to (mkTup_rel (.inl (.inl upd_same)) hz p2.rel).ones (List.Sublist.refl _))
    · cases e
theorem e_lst (h : PA X es (tMs K B ms)) : PE X (.List es pos) (tM K B fun env => M.bnd (ms env) fun xs => if xs.length ≤ sizeLine then M.ret (.tl xs) else M.no) :=
  peI (pe_lst h) fun σ H Q ⟨env, α, h, z, h', g, er, e, q⟩ => by
    obtain ⟨xs, h1, e1, e⟩ := bnd_some e
    split at e
    · rename_i hz
      obtain ⟨rfl, rfl⟩ := ret_some e
      exact ⟨env, α, h, xs, _, g, er, e1, fun α1 H1 vs L p1 => ⟨by rw [← p1.rel.length]; exact hz, fun c nc => q _ _ _ _ (p1.newList nc p1.rel (List.Sublist.refl _) hz)⟩⟩
    · cases e
theorem e_idx (ha : PE X a (tM X.K B ma)) (hb : PE X b (tM X.K B mb)) (hs : PlainIx b) : PE X (.Subscript a b pos) (tM X.K B fun env => M.bnd (ma env) fun x => M.bnd (mb env) fun y => idxV x y) :=
  peI (pe_ix ix_seq ha hb hs) fun σ H Q ⟨env, α, h, z, h', g, er, e, q⟩ => by
    obtain ⟨x, h1, e1, e⟩ := bnd_some e
    obtain ⟨y, h2, e2, e3⟩ := bnd_some e
    exact ⟨env, α, h, x, h1, g, er, e1, fun α1 H1 vx Lx p1 => ⟨env, α1, h1, y, h2, p1.good, er.later g p1.step, e2, fun α2 H2 vy Ly p2 => idx_ok (p1.app p2) e3 q⟩⟩
theorem e_blt {bl : Blt} {x : Str} {p : Pos} (hc : X.calm = true) (ni : ∀ ts, bl ≠ .isi ts) (hg : Gl X x) (hm : X.mg x = none) (hv : bootBuiltins x = some bl.val) (ha : PA X (a :: es) (tMs X.K B ms)) (hn : x ≠ Str.ofString "__name__") (hd : (x == Str.ofString "__debug__") = false)
    (hs : starEach (a :: es) X.env = (false, eval a X.env) :: starEach es X.env) (hp : (List.any (backTo pos (starEach es X.env)) fun x => x.1) = false) :
    PE X (.Call (.Name x p) (a :: es) [] pos) (tM X.K B fun env => M.bnd (ms env) fun xs => bltV bl xs) := by
  have key : ∀ (f : Value), bl.val = f → (∃ i, f = .builtin i) ∨ (∃ i, f = .type i) → PE X (.Call (.Name x p) (a :: es) [] pos) (tCB (CallS X f) (tMs X.K B ms)) := fun f ef h => by
    rcases h with ⟨i, rfl⟩ | ⟨i, rfl⟩
    · exact pe_callB calls_rule hg hm (by rw [hv, ef]) ha hn hd hs hp
    · exact pe_callTy calls_rule hg hm (by rw [hv, ef]) ha hn hd hs hp
  refine peI (key bl.val rfl (by cases bl <;> first | exact .inl ⟨_, rfl⟩ | exact .inr ⟨_, rfl⟩)) fun σ H Q ⟨env, α, h, z, h', g, er, e, q⟩ => ?_
  obtain ⟨xs, h1, e1, e⟩ := bnd_some e
  exact ⟨env, α, h, xs, h1, g, er, e1, fun α1 H1 vs L p1 => blt_ok hc ni p1 e q⟩
theorem tys_pa {ts : List Ty} {es : List Expr} (h : PA X es (fun _ H Q => Q (ts.map fun t => V.ty t.nm) H)) {x1 : Nat} {p2 : Pos} : PE X (.Tuple es x1 p2) (fun _ H Q => ts.length ≤ sizeLine ∧ ∀ p, H p = none → Q (.ref p) (upd H p (.tup (ts.map fun t => V.ty t.nm)))) :=
  peI (pe_tup h) fun σ H Q ⟨hz, q⟩ => ⟨by rw [List.length_map]; exact hz, q⟩
theorem isi_inv {ts : List Ty} {v : PV} {h : Hs} {r : PV × Hs} (e : bltV (.isi ts) [v] h = some r) : isRg v = false ∧ some (PV.d (.bl (ts.any fun t => tyIs h v t)), h) = some r := by
  have e' : (if isRg v then none else some (PV.d (.bl (ts.any fun t => tyIs h v t)), h)) = some r := e
  cases k : isRg v with
  | true => rw [k] at e'; cases e'
  | false => rw [k] at e'; exact ⟨rfl, e'⟩
theorem e_isi1 {t : Ty} {x : Str} {p : Pos} {b : Expr} (hb : PE X b (tC (.ty t.nm))) (hg : Gl X x) (hm : X.mg x = none) (hv : bootBuiltins x = some (.builtin "isinstance")) (ha : PE X a (tM X.K B ma)) (hn : x ≠ Str.ofString "__name__") (hd : (x == Str.ofString "__debug__") = false)
    (hs : starEach [a, b] X.env = (false, eval a X.env) :: starEach [b] X.env) (hs2 : starEach [b] X.env = [(false, eval b X.env)]) (hp : (List.any (backTo pos (starEach [b] X.env)) fun x => x.1) = false) :
    PE X (.Call (.Name x p) [a, b] [] pos) (tM X.K B fun env => M.bnd (M.bnd (ma env) fun x => M.bnd (M.ret []) fun xs => M.ret (x :: xs)) fun xs => bltV (.isi [t]) xs) :=
  peI (pe_callB calls_rule hg hm hv (pa_cons ha (pa_cons hb pa_nil hs2) hs) hn hd hs hp) fun σ H Q ⟨env, α, h, z, h', g, er, e, q⟩ => by
    obtain ⟨xs, h1, e1, e⟩ := bnd_some e
    obtain ⟨v, h2, e2, e3⟩ := bnd_some e1
    obtain ⟨_, h3, e4, e5⟩ := bnd_some e3
    obtain ⟨rfl, rfl⟩ := ret_some e4
    obtain ⟨rfl, rfl⟩ := ret_some e5
    refine ⟨env, α, h, v, _, g, er, e2, fun α1 H1 vv L p1 => ?_⟩
    obtain ⟨nr, e⟩ := isi_inv e
    cases e
    refine isi_one nr p1 ?_
    have := q _ _ _ _ (p1.dat (.bl _))
    simpa using this
theorem e_isiT {ts : List Ty} {x : Str} {p p2 : Pos} {x1 : Nat} (hz : ts.length ≤ sizeLine) (hb : PA X es (fun _ H Q => Q (ts.map fun t => V.ty t.nm) H)) (hg : Gl X x) (hm : X.mg x = none) (hv : bootBuiltins x = some (.builtin "isinstance")) (ha : PE X a (tM X.K B ma)) (hn : x ≠ Str.ofString "__name__") (hd : (x == Str.ofString "__debug__") = false)
    (hs : starEach [a, .Tuple es x1 p2] X.env = (false, eval a X.env) :: starEach [.Tuple es x1 p2] X.env) :
    PE X (.Call (.Name x p) [a, .Tuple es x1 p2] [] pos) (tM X.K B fun env => M.bnd (M.bnd (ma env) fun x => M.bnd (M.ret []) fun xs => M.ret (x :: xs)) fun xs => bltV (.isi ts) xs) :=
  peI (pe_callB calls_rule hg hm hv (pa_cons ha (pa_cons (tys_pa hb) pa_nil) hs) hn hd hs (by rfl)) fun σ H Q ⟨env, α, h, z, h', g, er, e, q⟩ => by
    obtain ⟨xs, h1, e1, e⟩ := bnd_some e
    obtain ⟨v, h2, e2, e3⟩ := bnd_some e1
    obtain ⟨_, h3, e4, e5⟩ := bnd_some e3
    obtain ⟨rfl, rfl⟩ := ret_some e4
    obtain ⟨rfl, rfl⟩ := ret_some e5
    refine ⟨env, α, h, v, _, g, er, e2, fun α1 H1 vv L p1 => ⟨hz, fun c nc => ?_⟩⟩
    obtain ⟨nr, e⟩ := isi_inv e
    cases e
    have p2 := p1.fresh (o := .tup (ts.map fun t => V.ty t.nm)) nc
    exact isi_many nr p2 upd_same (q _ _ _ _ (p2.dat (.bl _)))
end
end Pe
/-! Pe: slices, methods, calls of defs, targets. -/
namespace Pe
open PySem PySem.Spec PyProof.Rows L2

section
variable {X : Cx} {K : PySem.W.Frag} {B : List Nat} {fb : Nat} {a b c : Expr} {ma mb mc : Env → M PV} {pos : Pos} {es : List Expr} {ms : Env → M (List PV)}
/-! ### slices -/
/-- a slice's part -/
def mPart (f : Bool) (m : Env → M PV) : Env → M (Option Int) := fun env => M.bnd (if f then m env else M.ret (.d .non)) fun v => M.of (optI f v)
def tMO (K : PySem.W.Frag) (B : List Nat) (m : Env → M (Option Int)) : L2.TO := fun σ H Q => ∃ env α h l h', Good K B α h H ∧ EnvR K α H env σ ∧ m env h = some (l, h') ∧ ∀ α' H', Step α H α' H' → Good K B α' h' H' → Q l H'
theorem o_none {m : Env → M PV} : PO X none (tMO K B (mPart false m)) := ⟨fun pins s σ H Q I ⟨env, α, h, l, h', g, er, e, q⟩ => by
  obtain ⟨v, h1, e1, e2⟩ := bnd_some e
  obtain ⟨rfl, rfl⟩ := ret_some e1
  obtain ⟨rfl, rfl⟩ := ret_some (show M.ret none _ = some (l, h') from e2)
  exact (po_none (X := X)).run pins s σ H Q I (q α H .refl g)⟩
theorem o_some (ha : PE X a (tM K B ma)) : PO X (some a) (tMO K B (mPart true ma)) := ⟨fun pins s σ H Q I ⟨env, α, h, l, h', g, er, e, q⟩ => by
  obtain ⟨v, h1, e1, e2⟩ := bnd_some e
  refine (po_some ha).run pins s σ H Q I ⟨env, α, h, v, h1, g, er, e1, fun α1 H1 vv L p1 => ?_⟩
  unfold optI at e2
  rw [if_pos rfl] at e2
  unfold intOf at e2
  split at e2
  · obtain ⟨rfl, rfl⟩ := ret_some (show M.ret (some _) _ = some (l, h') from e2)
    obtain ⟨rfl, _⟩ := p1.one.int_inv
    exact ⟨_, rfl, q _ _ p1.step p1.good⟩
  · cases e2⟩
theorem e_slc {lo hi : Option Expr} {ml mh : Env → M (Option Int)} {p2 : Pos} (ha : PE X a (tM X.K B ma)) (hl : PO X lo (tMO X.K B ml)) (hh : PO X hi (tMO X.K B mh)) :
    PE X (.Subscript a (.Slice lo hi none p2) pos) (tM X.K B fun env => M.bnd (ma env) fun x => M.bnd (ml env) fun l => M.bnd (mh env) fun u => sliceV x l u) :=
  peI (pe_slice sl_any ha hl hh) fun σ H Q ⟨env, α, h, z, h', g, er, e, q⟩ => by
    obtain ⟨x, h1, e1, e⟩ := bnd_some e
    obtain ⟨l, h2, e2, e⟩ := bnd_some e
    obtain ⟨u, h3, e3, e4⟩ := bnd_some e
    refine ⟨env, α, h, x, h1, g, er, e1, fun α1 H1 vx Lx p1 => ⟨env, α1, h1, l, h2, p1.good, er.later g p1.step, e2, fun α2 H2 s2 g2 => ?_⟩⟩
    have p2 := p1.later s2 g2
    refine ⟨env, α2, h2, u, h3, g2, er.later g p2.step, e3, fun α3 H3 s3 g3 => ?_⟩
    exact slice_ok (p2.later s3 g3) e4 q
theorem e_rsl {k : Nat} {p1 p2 p3 : Pos} (ha : PE X a (tM X.K B ma)) : PE X (.Subscript a (.Slice none none (some (.UnaryOp .USub (.Constant (.int 1) k p1) p2)) p3) pos) (tM X.K B fun env => M.bnd (ma env) fun x => fun h => match lstOf x h with
    | some xs => some (.tl xs.reverse, h)
    | none => none) :=
  peI (pe_revL ha) fun σ H Q ⟨env, α, h, z, h', g, er, e, q⟩ => by
    obtain ⟨x, h1, e1, e⟩ := bnd_some e
    refine ⟨env, α, h, x, h1, g, er, e1, fun α1 H1 vx Lx p1 => ?_⟩
    split at e
    · rename_i xs e2
      cases e
      obtain ⟨d, vs, M, rfl, s, z1, t, sb⟩ := lst_ok p1.good e2 p1.one
      obtain ⟨N, r, pm⟩ := t.reverse
      refine ⟨d, vs, rfl, s, fun c nc => ?_⟩
      obtain ⟨f1, f2, f3⟩ := p1.fresh_out nc
      have pt := p1.to t sb
      have pr : Psts X.K B α H α1 H1 _ xs.reverse vs.reverse N := ⟨pt.step, pt.good, r, (pm.nodup_iff).mpr pt.nd, fun a ha => pt.out a (pm.subset ha), fun a ha => pt.fr a (pm.subset ha)⟩
      exact q _ _ _ _ (pr.newList nc r (List.Sublist.refl _) (by rw [List.length_reverse]; exact z1))
    · cases e

/-! ### methods of lists -/
theorem ref_list {α0 α : List Addr} {H0 H : Hp} {h : Hs} {n : Nat} {v : V} {L : List Addr} (p : Psts K B α0 H0 α H h [.ref n] [v] L) : tyV K "list" v H := by
  have r := p.one
  cases r with
  | ref q =>
    obtain ⟨m, xs, vs, _, _, e⟩ := p.good.of_addr (List.mem_of_getElem? q)
    exact .inl ⟨rfl, vs, .inl (.inl e)⟩
theorem tl_list {α0 α : List Addr} {H0 H : Hp} {h : Hs} {xs : List PV} {v : V} {L : List Addr} (p : Psts K B α0 H0 α H h [.tl xs] [v] L) : tyV K "list" v H := by
  have r := p.one
  cases r with
  | tl e _ _ => exact .inl ⟨rfl, _, .inl (.inl e)⟩
theorem mth_list {m : Mth} {x : PV} {ys : List PV} {h : Hs} {r : PV × Hs} (e : mthV fb m x ys h = some r) {α0 α : List Addr} {H0 H : Hp} {h1 : Hs} {v : V} {L : List Addr} (p : Psts K B α0 H0 α H h1 [x] [v] L) : tyV K "list" v H := by
  unfold mthV at e
  split at e <;> first | exact ref_list p | exact tl_list p | cases e
theorem e_mth {m : Mth} {apos cpos : Pos} (hu : X.A.units + 65 < cLine) (hB : ∀ b ∈ B, b ≤ fb) (ho : PE X a (tM X.K B ma)) (ha : PA X (b :: es) (tMs X.K B ms)) (h1 : attributeBase a m.nm X.env (eval a X.env) = eval a X.env) (hl : es.length < 25) (h3 : (apos.endLine == cpos.line) = true)
    (h4 : starEach (b :: es) X.env = (false, eval b X.env) :: starEach es X.env) (h5 : (List.any (backTo cpos (starEach es X.env)) fun x => x.1) = false)
    (h2 : ((((backTo cpos (starEach (b :: es) X.env)).all fun x => !x.1) && (backToKw cpos (keywordEach [] X.env)).all fun x => x.1.isSome) && decide (((b :: es).length + ([] : List Keyword).length + if ([] : List Keyword).isEmpty then 0 else 1) < 30)) = true) :
    PE X (.Call (.Attribute a m.nm apos) (b :: es) [] cpos) (tM X.K B fun env => M.bnd (ma env) fun x => M.bnd (ms env) fun xs => mthV fb m x xs) := by
  have key : PE X (.Call (.Attribute a m.nm apos) (b :: es) [] cpos) (tBM X.K "list" (rMth X.K m) (tM X.K B ma) (tMs X.K B ms)) := by
    cases m with
    | append => exact pe_bm PySem.F.plainAttrs_list PySem.F.slot_list_append PySem.F.type_list_append (mth_rule hu .append) ho ha h1 h2 h3 h4 h5
    | pop => exact pe_bm PySem.F.plainAttrs_list PySem.F.slot_list_pop PySem.F.type_list_pop (mth_rule hu .pop) ho ha h1 h2 h3 h4 h5
    | reverse => exact pe_bm PySem.F.plainAttrs_list PySem.F.slot_list_reverse PySem.F.type_list_reverse (mth_rule hu .reverse) ho ha h1 h2 h3 h4 h5
    | extend => exact pe_bm PySem.F.plainAttrs_list PySem.F.slot_list_extend PySem.F.type_list_extend (mth_rule hu .extend) ho ha h1 h2 h3 h4 h5
    | popAt => exact pe_bm PySem.F.plainAttrs_list PySem.F.slot_list_pop PySem.F.type_list_pop (mth_rule hu .popAt) ho ha h1 h2 h3 h4 h5
    | index => exact pe_bm PySem.F.plainAttrs_list PySem.F.slot_list_index PySem.F.type_list_index (mth_rule hu .index) ho ha h1 h2 h3 h4 h5
  refine peI key fun σ H Q ⟨env, α, h, z, h', g, er, e, q⟩ => ?_
  obtain ⟨x, h1, e1, e⟩ := bnd_some e
  obtain ⟨xs, h2, e2, e3⟩ := bnd_some e
  exact ⟨env, α, h, _, h1, g, er, e1, fun α1 H1 vx Lx p1 => ⟨mth_list e3 p1, env, α1, h1, xs, h2, p1.good, er.later g p1.step, e2, fun α2 H2 vs L p2 => mth_ok hB (p1.app p2) e3 q⟩⟩
theorem e_mth0 {m : Mth} {apos cpos : Pos} (hu : X.A.units + 65 < cLine) (hB : ∀ b ∈ B, b ≤ fb) (ho : PE X a (tM X.K B ma)) (h1 : attributeBase a m.nm X.env (eval a X.env) = eval a X.env) (h3 : (apos.endLine == cpos.line) = true) :
    PE X (.Call (.Attribute a m.nm apos) [] [] cpos) (tM X.K B fun env => M.bnd (ma env) fun x => M.bnd (M.ret []) fun xs => mthV fb m x xs) := by
  have key : PE X (.Call (.Attribute a m.nm apos) [] [] cpos) (tBM0 X.K "list" (rMth X.K m) (tM X.K B ma)) := by
    cases m with
    | append => exact pe_bm0 PySem.F.plainAttrs_list PySem.F.slot_list_append PySem.F.type_list_append (mth_rule hu .append) ho h1 h3
    | pop => exact pe_bm0 PySem.F.plainAttrs_list PySem.F.slot_list_pop PySem.F.type_list_pop (mth_rule hu .pop) ho h1 h3
    | reverse => exact pe_bm0 PySem.F.plainAttrs_list PySem.F.slot_list_reverse PySem.F.type_list_reverse (mth_rule hu .reverse) ho h1 h3
    | extend => exact pe_bm0 PySem.F.plainAttrs_list PySem.F.slot_list_extend PySem.F.type_list_extend (mth_rule hu .extend) ho h1 h3
    | popAt => exact pe_bm0 PySem.F.plainAttrs_list PySem.F.slot_list_pop PySem.F.type_list_pop (mth_rule hu .popAt) ho h1 h3
    | index => exact pe_bm0 PySem.F.plainAttrs_list PySem.F.slot_list_index PySem.F.type_list_index (mth_rule hu .index) ho h1 h3
  refine peI key fun σ H Q ⟨env, α, h, z, h', g, er, e, q⟩ => ?_
  obtain ⟨x, h1, e1, e⟩ := bnd_some e
  obtain ⟨xs, h2, e2, e3⟩ := bnd_some e
  obtain ⟨rfl, rfl⟩ := ret_some e2
  exact ⟨env, α, h, _, _, g, er, e1, fun α1 H1 vx Lx p1 => ⟨mth_list e3 p1, mth_ok hB p1 e3 q⟩⟩

theorem strs_rel {K : PySem.W.Frag} : ∀ {xs : List PV} {us : List V} {L : List Addr} {bs : List Str}, PRs K α H xs us L → strsOf xs = some bs → us = bs.map V.str
  | [], _, _, _, r, e => by cases e; cases r; rfl
  | x :: xs, _, _, _, r, e => by
    obtain ⟨v, ws, M, N, rfl, rfl, r1, t⟩ := r.uncons
    unfold strsOf at e
    split at e
    · rename_i heq
      cases heq
    · rename_i b r2 heq
      cases heq
      split at e
      · rename_i bs e2
        cases e
        obtain ⟨rfl, _⟩ := r1.str_inv
        rw [strs_rel t e2]
        rfl
      · cases e
    · cases e
theorem e_join {apos cpos : Pos} (ho : PE X a (tM X.K B ma)) (hb : PE X b (tM X.K B mb)) (hs : starEach [b] X.env = [(false, eval b X.env)]) (h1 : attributeBase a "join" X.env (eval a X.env) = eval a X.env) (h3 : (apos.endLine == cpos.line) = true) :
    PE X (.Call (.Attribute a "join" apos) [b] [] cpos) (tM X.K B fun env => M.bnd (ma env) fun x => M.bnd (mb env) fun y => joinV x y) :=
  peI (pe_join ho hb hs h1 h3) fun σ H Q ⟨env, α, h, z, h', g, er, e, q⟩ => by
    obtain ⟨x, h1, e1, e⟩ := bnd_some e
    obtain ⟨y, h2, e2, e⟩ := bnd_some e
    unfold joinV at e
    split at e
    · rename_i s
      split at e
      · rename_i xs e3
        split at e
        · rename_i ys e4
          split at e
          · rename_i hz
            cases e
            refine ⟨env, α, h, _, h1, g, er, e1, fun α1 H1 vx Lx p1 => ?_⟩
            obtain ⟨rfl, _⟩ := p1.one.str_inv
            refine ⟨⟨_, rfl⟩, env, α1, h1, y, _, p1.good, er.later g p1.step, e2, fun α2 H2 vs L p2 => ?_⟩
            obtain ⟨p, ws, M, rfl, sq, z1, t, sb⟩ := seq_ok p2.good e3 p2.one
            have ev := strs_rel t e4
            subst ev
            exact ⟨_, p, ys, rfl, rfl, sq, hz, q _ _ _ _ ((p1.app p2).dat (.str _))⟩
          · cases e
        · cases e
      · cases e
    · cases e
theorem rgV_zero (j : Int) : rgV 0 j = (List.range j.toNat).map fun i => V.int ((i : Nat) : Int) := by
  unfold rgV
  rw [Int.sub_zero]
  refine List.map_congr_left fun i _ => ?_
  rw [Int.zero_add]
theorem drs_rng {K : PySem.W.Frag} {H : Hp} : ∀ l : List Nat, DRs K H (l.map fun i => D.int ((i : Nat) : Int)) (l.map fun i => V.int ((i : Nat) : Int))
  | [] => .nil
  | n :: ns => .cons (.int n) (drs_rng ns)
theorem e_lrgF {p p2 cpos : Pos} (hc : X.calm = true) (hg : Gl X "list") (hm : X.mg "list" = none) (hg2 : Gl X "range") (hm2 : X.mg "range" = none) (ha : PE X a (tM X.K B ma)) (hs : starEach [a] X.env = [(false, eval a X.env)]) :
    PE X (.Call (.Name "list" p) [.Call (.Name "range" p2) [a] [] cpos] [] pos) (tM X.K B fun env => M.bnd (ma env) fun x => lrgV false x) :=
  peI (pe_listRg hc hg hm (prg_1 hg2 hm2 ha hs) rfl) fun σ H Q ⟨env, α, h, z, h', g, er, e, q⟩ => by
    obtain ⟨x, h1, e1, e⟩ := bnd_some e
    unfold lrgV at e
    split at e
    · rename_i j
      split at e
      · rename_i hj
        cases e
        refine ⟨env, α, h, _, _, g, er, e1, fun α1 H1 vx Lx p1 => ?_⟩
        obtain ⟨rfl, _⟩ := p1.one.int_inv
        refine ⟨j, rfl, ⟨by decide, by decide, by omega, by omega, by omega⟩, fun c nc => ?_⟩
        rw [rgV_zero]
        have r : PRs X.K α1 H1 ((List.range j.toNat).map fun i => PV.d (.int ((i : Nat) : Int))) ((List.range j.toNat).map fun i => V.int ((i : Nat) : Int)) [] := by
          have := PRs.of_ds (α := α1) (drs_rng (K := X.K) (H := H1) (List.range j.toNat))
          rw [List.map_map] at this
          exact this
        exact q _ _ _ _ (p1.newList nc r (List.nil_sublist _) (by rw [List.length_map, List.length_range, sizeLine_eq]; omega))
      · cases e
    · cases e
theorem e_lrgT {p p2 cpos : Pos} (hc : X.calm = true) (hg : Gl X "tuple") (hm : X.mg "tuple" = none) (hg2 : Gl X "range") (hm2 : X.mg "range" = none) (ha : PE X a (tM X.K B ma)) (hs : starEach [a] X.env = [(false, eval a X.env)]) :
    PE X (.Call (.Name "tuple" p) [.Call (.Name "range" p2) [a] [] cpos] [] pos) (tM X.K B fun env => M.bnd (ma env) fun x => lrgV true x) :=
  peI (pe_tupRg hc hg hm (prg_1 hg2 hm2 ha hs) rfl) fun σ H Q ⟨env, α, h, z, h', g, er, e, q⟩ => by
    obtain ⟨x, h1, e1, e⟩ := bnd_some e
    unfold lrgV at e
    split at e
    · rename_i j
      split at e
      · rename_i hj
        cases e
        refine ⟨env, α, h, _, _, g, er, e1, fun α1 H1 vx Lx p1 => ?_⟩
        obtain ⟨rfl, _⟩ := p1.one.int_inv
        refine ⟨j, rfl, ⟨by decide, by decide, by omega, by omega, by omega⟩, fun c nc => ?_⟩
        rw [rgV_zero]
        have p2 := p1.fresh (o := .tup ((List.range j.toNat).map fun i => V.int ((i : Nat) : Int))) nc
        have : DR X.K (upd H1 c (.tup ((List.range j.toNat).map fun i => V.int ((i : Nat) : Int)))) (.tup ((List.range j.toNat).map fun i => D.int ((i : Nat) : Int))) (.ref c) :=
          .tup (.inl (.inl upd_same)) (by rw [List.length_map, List.length_range, sizeLine_eq]; omega) (drs_rng _)
        exact q _ _ _ _ (p2.dat this)
      · cases e
    · cases e

/-! ### range(n) as a value -/
theorem cr_range1 : CallR X (.type "range") (fun vs H Q => ∃ j, vs = [V.int j] ∧ ∀ p, H p = none → Q (.ref p) (upd H p (.rng 0 j))) := by
  intro pins s σ H vs us Q I r h
  obtain ⟨j, rfl, q⟩ := h
  obtain ⟨u, rfl, rj⟩ := vals1 r
  obtain ⟨t, rfl⟩ := rj
  refine call_range_1 ⟨.ref s.heap.objs.size, upd H s.heap.objs.size (.rng 0 j), I.laid (t' := s.toks + 1 + 1) (fun b o e => Heap.get?_push_of_some _ e) (Nat.le_refl _) ?_, rfl, q _ (I.hok.fresh (Nat.le_refl _))⟩
  exact ⟨s.toks, t, s.toks + 1, Heap.get?_push_size _ rfl⟩
theorem e_rgv {p : Pos} (hg : Gl X "range") (hm : X.mg "range" = none) (ha : PE X a (tM X.K B ma)) (hs : starEach [a] X.env = [(false, eval a X.env)]) :
    PE X (.Call (.Name "range" p) [a] [] pos) (tM X.K B fun env => M.bnd (ma env) fun x => rgvV x) :=
  peI (pe_callTy cr_range1 hg hm boot_range (pa_cons ha pa_nil hs) (by decide) (by decide) hs rfl) fun σ H Q ⟨env, α, h, z, h', g, er, e, q⟩ => by
    obtain ⟨x, h1, e1, e⟩ := bnd_some e
    unfold rgvV at e
    split at e
    · rename_i j
      split at e
      · rename_i hj
        cases e
        refine ⟨env, α, h, _, _, g, er, e1, fun α1 H1 vx Lx p1 => ?_⟩
        obtain ⟨rfl, _⟩ := p1.one.int_inv
        refine ⟨j, rfl, fun c nc => ?_⟩
        have p2 := p1.fresh (o := .rng 0 j) nc
        exact q _ _ _ _ (p2.to (PR.rg upd_same hj rfl).ones (List.nil_sublist _))
      · cases e
    · cases e

/-! ### max(xs, default=None), min(xs, default=None) -/
def rMaxD (mx : Bool) (K : PySem.W.Frag) : List V → List V → Hp → VK → Prop := fun vs zs H Q => ∃ (a : Addr) (ns : List Int), vs = [V.ref a] ∧ zs = [V.non] ∧ SqL K H a (ns.map V.int) ∧ (ns = [] → Q .non H) ∧
  ∀ m : Int, m ∈ ns → (∀ y ∈ ns, if mx then y ≤ m else m ≤ y) → Q (.int m) H
theorem cr_maxD (hc : X.calm = true) : CallRK X (.builtin "max") [Str.ofString "default"] (rMaxD true X.K) := by
  intro pins s σ H vs zs us ws Q I r rz h
  obtain ⟨a, ns, rfl, rfl, hs, q0, q1⟩ := h
  obtain ⟨its, rv, hl, _⟩ := I.list hs
  rw [Vals.ref1 r]
  obtain ⟨u, rfl, ru⟩ := vals1 rz
  cases (show u = Value.none from ru)
  have hi := rv.ints
  obtain ⟨xs, e⟩ := hi.allInts.items
  have hn : numsOf (intItems xs).toList = ns := by rw [← e]; exact hi.numsOf
  rw [nums_intItems] at hn
  subst hn
  have hl' := hl.isList
  rw [e] at hl'
  show wpAny _ _ (PySem.call (.builtin "max") [.ref a] [(Str.ofString "default", .none)]) _ _ _
  have hsz : (intItems xs).size = xs.size := by simp [intItems]
  refine call_max_walkD (iter_intList hl' fun s₂ e2 st hfp hlI => ?_)
  subst e2
  refine ⟨_, _, _, _, _, _, _, s.heap, fun i j => decide (numAt xs i > numAt xs j), rfl, (Walks.list (A := X.A.in1) (I.ok.hd hc) _ a hlI (intItems xs)).toS, st, hfp, fun b o hb hm => ?_, fun b o e => Heap.get?_push_of_some _ e, fun hz s' hm => ?_, fun hz => ⟨fun i j vi vj s Q E _ hi hj h => CmpOf.ints_gt (numAt xs) (fun _ _ => intItems_at) i j vi vj s Q E hi hj h, fun v s' hv hm => ?_⟩⟩
  · rw [List.mem_singleton.mp hm] at hb
    exact absurd (Heap.lt_size hb) (Nat.lt_irrefl _)
  · have e3 := Moved.eq_with hm
    have hk := old_kept (s := s) (l := a) hm.heap
    rw [e3]
    refine ⟨.non, H, I.kept hk, rfl, q0 ?_⟩
    rw [hsz] at hz
    rw [Array.eq_empty_of_size_eq_zero hz]
    rfl
  · have e3 := Moved.eq_with hm
    have hk := old_kept (s := s) (l := a) hm.heap
    rw [e3]
    rw [hsz] at hz hv
    obtain ⟨t, rfl⟩ := intItems_at hv
    obtain ⟨h1, h2⟩ := argBest_gt (numAt xs) (xs.size - 1)
    refine ⟨.int _, H, I.kept hk, ⟨_, rfl⟩, q1 _ ?_ fun y ha => ?_⟩
    · rw [numAt_eq]; exact PySem.getD_mem (by rw [List.length_map, Array.length_toList]; omega)
    · obtain ⟨j, hj, rfl⟩ := mem_getD ha
      rw [List.length_map, Array.length_toList] at hj
      rw [← numAt_eq]; exact h2 j (by omega)
theorem cr_minD (hc : X.calm = true) : CallRK X (.builtin "min") [Str.ofString "default"] (rMaxD false X.K) := by
  intro pins s σ H vs zs us ws Q I r rz h
  obtain ⟨a, ns, rfl, rfl, hs, q0, q1⟩ := h
  obtain ⟨its, rv, hl, _⟩ := I.list hs
  rw [Vals.ref1 r]
  obtain ⟨u, rfl, ru⟩ := vals1 rz
  cases (show u = Value.none from ru)
  have hi := rv.ints
  obtain ⟨xs, e⟩ := hi.allInts.items
  have hn : numsOf (intItems xs).toList = ns := by rw [← e]; exact hi.numsOf
  rw [nums_intItems] at hn
  subst hn
  have hl' := hl.isList
  rw [e] at hl'
  show wpAny _ _ (PySem.call (.builtin "min") [.ref a] [(Str.ofString "default", .none)]) _ _ _
  have hsz : (intItems xs).size = xs.size := by simp [intItems]
  refine call_min_walkD (iter_intList hl' fun s₂ e2 st hfp hlI => ?_)
  subst e2
  refine ⟨_, _, _, _, _, _, _, s.heap, fun i j => decide (numAt xs i < numAt xs j), rfl, (Walks.list (A := X.A.in1) (I.ok.hd hc) _ a hlI (intItems xs)).toS, st, hfp, fun b o hb hm => ?_, fun b o e => Heap.get?_push_of_some _ e, fun hz s' hm => ?_, fun hz => ⟨fun i j vi vj s Q E _ hi hj h => CmpOf.ints_lt (numAt xs) (fun _ _ => intItems_at) i j vi vj s Q E hi hj h, fun v s' hv hm => ?_⟩⟩
  · rw [List.mem_singleton.mp hm] at hb
    exact absurd (Heap.lt_size hb) (Nat.lt_irrefl _)
  · have e3 := Moved.eq_with hm
    have hk := old_kept (s := s) (l := a) hm.heap
    rw [e3]
    refine ⟨.non, H, I.kept hk, rfl, q0 ?_⟩
    rw [hsz] at hz
    rw [Array.eq_empty_of_size_eq_zero hz]
    rfl
  · have e3 := Moved.eq_with hm
    have hk := old_kept (s := s) (l := a) hm.heap
    rw [e3]
    rw [hsz] at hz hv
    obtain ⟨t, rfl⟩ := intItems_at hv
    obtain ⟨h1, h2⟩ := argBest_lt (numAt xs) (xs.size - 1)
    refine ⟨.int _, H, I.kept hk, ⟨_, rfl⟩, q1 _ ?_ fun y ha => ?_⟩
    · rw [numAt_eq]; exact PySem.getD_mem (by rw [List.length_map, Array.length_toList]; omega)
    · obtain ⟨j, hj, rfl⟩ := mem_getD ha
      rw [List.length_map, Array.length_toList] at hj
      rw [← numAt_eq]; exact h2 j (by omega)
theorem pk_non {j : Nat} {q kp : Pos} {k : Str} : PK X [⟨some k, .Constant .none j q, kp⟩] (tCons (fun _ H Q => Q .non H) tNil) := pk_cons (peI pe_non fun σ H Q h => h) pk_nil
theorem e_mxd {p kp q : Pos} {j : Nat} (mx : Bool) {x : Str} (hx : x = (if mx then "max" else "min" : Str)) (hc : X.calm = true) (hg : Gl X x) (hm : X.mg x = none) (ha : PE X a (tM X.K B ma)) (hs : starEach [a] X.env = [(false, eval a X.env)]) :
    PE X (.Call (.Name x p) [a] [⟨some (Str.ofString "default"), .Constant .none j q, kp⟩] pos) (tM X.K B fun env => M.bnd (ma env) fun x => mxdV mx x) := by
  have fin : ∀ σ H Q, tM X.K B (fun env => M.bnd (ma env) fun x => mxdV mx x) σ H Q → tCKw (rMaxD mx X.K) (tCons (tM X.K B ma) tNil) (tCons (fun _ H Q => Q .non H) tNil) σ H Q := fun σ H Q ⟨env, α, h, z, h', g, er, e, q⟩ => by
    obtain ⟨x, h1, e1, e⟩ := bnd_some e
    unfold mxdV at e
    split at e
    · rename_i ys e2
      obtain ⟨ns, e3, e4⟩ := map_some' e
      cases e4
      refine ⟨env, α, h, _, _, g, er, e1, fun α1 H1 vx Lx p1 => ?_⟩
      obtain ⟨a, vs, M2, rfl, s, z1, t, b⟩ := lst_ok p1.good e2 p1.one
      have ev := ints_rel t e3
      subst ev
      refine ⟨a, ns, rfl, rfl, s, fun hz => ?_, fun m h1 h2 => ?_⟩
      · subst hz
        exact q _ _ _ _ (p1.dat .non)
      · cases ns with
        | nil => cases h1
        | cons n ns =>
          cases mx with
          | true =>
            have : m = maxI n ns := Int.le_antisymm ((maxI_spec n ns).2 m h1) (by simpa using h2 _ (maxI_spec n ns).1)
            rw [this]
            exact q _ _ _ _ (p1.dat (.int _))
          | false =>
            have : m = minI n ns := Int.le_antisymm (by simpa using h2 _ (minI_spec n ns).1) ((minI_spec n ns).2 m h1)
            rw [this]
            exact q _ _ _ _ (p1.dat (.int _))
    · cases e
  cases mx with
  | true =>
    subst hx
    exact peI (pe_callBK (cr_maxD hc) hg hm boot_max (pa_cons ha pa_nil hs) pk_non (by decide) (by decide) (by rw [hs]; rfl) (by rw [hs]; rfl)) fin
  | false =>
    subst hx
    exact peI (pe_callBK (cr_minD hc) hg hm boot_min (pa_cons ha pa_nil hs) pk_non (by decide) (by decide) (by rw [hs]; rfl) (by rw [hs]; rfl)) fin

/-! ### sorted(set(t)) -/
/-- set(t) of a tuple or a list of whole numbers -/
theorem set_any {pins : List (Addr × Obj)} {σ : L2.St} {H1 : Hp} {s1 : Shared} {a : Addr} {ns : List Int} {E1 : Value → Shared → Prop} {Q : Value → Shared → Prop} (hc : X.calm = true) (I1 : Inv X pins σ H1 s1) (hq : SqL X.K H1 a (ns.map V.int) ∨ SqT X.K H1 a (ns.map V.int)) (hl : ns.length < 4000)
    (q : ∀ (h' : Heap) (tk c : Nat), SetR X.w h' s1.heap.objs.size (fun j => decide (j ∈ ns)) c → Inv X pins σ H1 { s1 with heap := h', toks := tk } → Q (.ref s1.heap.objs.size) { s1 with heap := h', toks := tk }) :
    wpAny (model X.prog X.w) X.A (PySem.call (Value.type "set") [Value.ref a]) Q E1 s1 := by
  rcases hq with hq | hq
  · obtain ⟨its, rv, ⟨⟨cls, dd, data, sl⟩, n, ho, hcl, hdn, hd⟩, hz⟩ := I1.list hq
    simp only at hcl hd
    have hi : IntsAre its.toArray.toList ns := ints_of_vals rv
    refine call_set_lstI ns (I1.ok.hd hc) ⟨_, ho, hcl, n, hd⟩ hi (by unfold scanBound; omega) fun s2 ⟨h', tk, c, e, R1, _, k⟩ => ?_
    subst e
    exact q h' tk c R1 (I1.kept fun b o e => k b o e)
  · obtain ⟨its, rv, pt, hz⟩ := I1.tuple hq
    have hi : IntsAre its.toArray.toList ns := ints_of_vals rv
    exact call_set_tupI ns (I1.ok.hd hc) pt hi (by unfold scanBound; omega) fun h' tk c R1 hcn k => q h' tk c R1 (I1.kept fun b o e => k b o e)
/-- sorted(set(t)), t a tuple or list of whole numbers -/
def tSset (K : PySem.W.Frag) (ta : TE) : TE := fun σ H Q => ta σ H fun x H1 => ∃ (a : Addr) (ns : List Int), x = .ref a ∧ (SqL K H1 a (ns.map V.int) ∨ SqT K H1 a (ns.map V.int)) ∧ ns.length < 4000 ∧ (∃ ms : List Int, ms.Nodup ∧ (∀ k, k ∈ ms ↔ k ∈ ns) ∧ ms.length < 60) ∧
  ∀ (ms : List Int) (p : Addr), ms.Pairwise (· < ·) → (∀ k, k ∈ ms ↔ k ∈ ns) → H1 p = none → Q (.ref p) (upd H1 p (.lst (ms.map V.int)))
theorem pe_sset {a : Expr} {ta : TE} {p p2 q pos : Pos} (hc : X.calm = true) (hg : Gl X "sorted") (hm : X.mg "sorted" = none) (hg2 : Gl X "set") (hm2 : X.mg "set" = none) (ha : PE X a ta)
    (na : starEach [a] X.env = (false, eval a X.env) :: starEach [] X.env) : PE X (.Call (.Name "sorted" p) [.Call (.Name "set" p2) [a] [] q] [] pos) (tSset X.K ta) := by
  refine ⟨fun pins s σ H Q I h => ?_⟩
  refine Call_ (ld_blt I hg hm boot_sorted ?_)
  refine PyProof.Rows.callWith_builtin1 (PyProof.Rows.args_cons ?_ rfl) rfl rfl
  refine Call_ (ld_blt I hg2 hm2 PyProof.Rows.boot_set ?_)
  refine PyProof.Rows.callWith_type1 (PyProof.Rows.args_cons (thn (ha.run pins s σ H _ I h) fun v s1 ⟨x, H1, I1, r1, q1⟩ => PyProof.Rows.args_nil ?_) na) na rfl
  obtain ⟨l, ns, rfl, hq, hl, ⟨ms0, nd0, mem0, len0⟩, q1⟩ := q1
  cases r1
  refine set_any hc I1 hq hl fun h' tk c R1 I2 => ?_
  have hcn : c < 60 := by rw [setR_card R1 nd0 mem0]; exact len0
  refine PyProof.Rows.args_nil ?_
  refine sorted_set R1 (I2.ok.hd hc) (by omega) fun s' p out c ms k2 g o hp hg3 hi2 hs hmem hlen => ?_
  have hlen2 : (ms.map V.int).length ≤ sizeLine := by rw [List.length_map, hlen, sizeLine_eq]; omega
  have hn : H1 p = none := I2.hok.fresh hp
  have J : L2.Inv X pins σ (upd H1 p (.lst (ms.map V.int))) { ({ s1 with heap := h', toks := tk } : Shared) with heap := s'.heap, gens := s'.gens, drawn := s'.drawn, toks := s'.toks } :=
    I2.call (ch := []) (Un.laid k2 hp hn) (I2.hok.laid k2 hp ⟨hlen2, out.toList, _, vals_of_ints hi2, hg3⟩) (by rw [g]; exact I2.bare) (fun _ z => nomatch z)
  have e : s' = { ({ s1 with heap := h', toks := tk } : Shared) with heap := s'.heap, gens := s'.gens, drawn := s'.drawn, toks := s'.toks } := by
    cases s'
    cases s1
    cases o
    rfl
  rw [e]
  exact ⟨.ref p, _, J, rfl, q1 ms p hs (fun k => by rw [hmem k, decide_eq_true_iff]) hn⟩
/-- len(set(t)) -/
def tLset (K : PySem.W.Frag) (ta : TE) : TE := fun σ H Q => ta σ H fun x H1 => ∃ (a : Addr) (ns : List Int), x = .ref a ∧ (SqL K H1 a (ns.map V.int) ∨ SqT K H1 a (ns.map V.int)) ∧ ns.length < 4000 ∧ ∃ ms : List Int, ms.Nodup ∧ (∀ k, k ∈ ms ↔ k ∈ ns) ∧ ms.length < 4000 ∧ Q (.int (ms.length : Nat)) H1
theorem pe_lset {a : Expr} {ta : TE} {p p2 q pos : Pos} (hc : X.calm = true) (hg : Gl X "len") (hm : X.mg "len" = none) (hg2 : Gl X "set") (hm2 : X.mg "set" = none) (ha : PE X a ta)
    (na : starEach [a] X.env = (false, eval a X.env) :: starEach [] X.env) : PE X (.Call (.Name "len" p) [.Call (.Name "set" p2) [a] [] q] [] pos) (tLset X.K ta) := by
  refine ⟨fun pins s σ H Q I h => ?_⟩
  refine Call_ (ld_blt I hg hm PySem.boot_len ?_)
  refine PyProof.Rows.callWith_builtin1 (PyProof.Rows.args_cons ?_ rfl) rfl rfl
  refine Call_ (ld_blt I hg2 hm2 PyProof.Rows.boot_set ?_)
  refine PyProof.Rows.callWith_type1 (PyProof.Rows.args_cons (thn (ha.run pins s σ H _ I h) fun v s1 ⟨x, H1, I1, r1, q1⟩ => PyProof.Rows.args_nil ?_) na) na rfl
  obtain ⟨l, ns, rfl, hq, hl, ms, nd, mem, len, q1⟩ := q1
  cases r1
  refine set_any hc I1 hq hl fun h' tk c R1 I2 => ?_
  refine PyProof.Rows.args_nil ?_
  obtain ⟨o, es, ep, t, ho, hex, hd, _, _, _, hf, hsz⟩ := R1.setOf (P := X.prog)
  have ec := setR_card R1 nd mem
  exact call_len_set ho hex hd hf (by rw [hsz, ec]; omega) ⟨.int (ms.length : Nat), H1, I2.tok _, ⟨_, by rw [hsz, ec]⟩, q1⟩
theorem mem_insU {x k : Int} : ∀ l : List Int, k ∈ insU x l ↔ k = x ∨ k ∈ l
  | [] => by simp [insU]
  | y :: ys => by
    unfold insU
    split
    · simp
    · split
      · rename_i h
        subst h
        simp
      · rw [List.mem_cons, mem_insU ys, List.mem_cons]
        constructor
        · rintro (h | h | h)
          · exact .inr (.inl h)
          · exact .inl h
          · exact .inr (.inr h)
        · rintro (h | h | h)
          · exact .inr (.inl h)
          · exact .inl h
          · exact .inr (.inr h)
theorem insU_sorted {x : Int} : ∀ l : List Int, l.Pairwise (· < ·) → (insU x l).Pairwise (· < ·)
  | [], _ => by simp [insU]
  | y :: ys, h => by
    obtain ⟨h1, h2⟩ := List.pairwise_cons.mp h
    unfold insU
    split
    · rename_i hx
      refine List.pairwise_cons.mpr ⟨fun z hz => ?_, h⟩
      rcases List.mem_cons.mp hz with e | e
      · rw [e]; exact hx
      · have := h1 z e
        omega
    · split
      · exact h
      · refine List.pairwise_cons.mpr ⟨fun z hz => ?_, insU_sorted ys h2⟩
        rcases (mem_insU ys).mp hz with e | e
        · omega
        · exact h1 z e
theorem setI_sorted : ∀ ns : List Int, (setI ns).Pairwise (· < ·)
  | [] => List.Pairwise.nil
  | n :: ns => insU_sorted _ (setI_sorted ns)
theorem mem_setI {k : Int} : ∀ ns : List Int, k ∈ setI ns ↔ k ∈ ns
  | [] => Iff.rfl
  | n :: ns => by
    show k ∈ insU n (setI ns) ↔ _
    rw [mem_insU, mem_setI ns, List.mem_cons]
theorem lt_uniq : ∀ {a b : List Int}, a.Pairwise (· < ·) → b.Pairwise (· < ·) → (∀ k, k ∈ a ↔ k ∈ b) → a = b := by
  intro a b ha hb h
  have pm : a.Perm b := (List.perm_ext_iff_of_nodup (ha.imp fun h e => absurd h (by rw [e]; exact Int.lt_irrefl _)) (hb.imp fun h e => absurd h (by rw [e]; exact Int.lt_irrefl _))).mpr h
  exact pm.eq_of_pairwise (le := fun a b : Int => a < b) (fun x y _ _ h1 h2 => absurd h1 (by omega)) ha hb
theorem e_sset {p p2 cpos : Pos} (hc : X.calm = true) (hg : Gl X "sorted") (hm : X.mg "sorted" = none) (hg2 : Gl X "set") (hm2 : X.mg "set" = none) (ha : PE X a (tM X.K B ma)) (hs : starEach [a] X.env = [(false, eval a X.env)]) :
    PE X (.Call (.Name "sorted" p) [.Call (.Name "set" p2) [a] [] cpos] [] pos) (tM X.K B fun env => M.bnd (ma env) fun x => ssetV x) :=
  peI (pe_sset hc hg hm hg2 hm2 ha hs) fun σ H Q ⟨env, α, h, z, h', g, er, e, q⟩ => by
    obtain ⟨x, h1, e1, e⟩ := bnd_some e
    unfold ssetV at e
    split at e
    · rename_i xs e2
      split at e
      · rename_i ns e3
        split at e
        · rename_i hl
          cases e
          refine ⟨env, α, h, _, _, g, er, e1, fun α1 H1 vx Lx p1 => ?_⟩
          obtain ⟨a, vs, M2, rfl, s, z1, t, b⟩ := seq_ok p1.good e2 p1.one
          have ev := ints_rel t e3
          subst ev
          refine ⟨a, ns, rfl, s, hl.1, ⟨setI ns, (setI_sorted ns).imp fun h e => absurd h (by rw [e]; exact Int.lt_irrefl _), fun k => mem_setI ns, hl.2⟩, fun ms p h1 h2 nc => ?_⟩
          have : ms = setI ns := lt_uniq h1 (setI_sorted ns) fun k => by rw [h2 k, mem_setI]
          subst this
          have eq2 : (setI ns).map (fun i => PV.d (.int i)) = ((setI ns).map D.int).map PV.d := by rw [List.map_map]; rfl
          rw [eq2] at q
          refine q _ _ _ _ (p1.newList nc (PRs.of_ds (drs_ints _)) (List.nil_sublist _) ?_)
          rw [List.length_map, List.length_map, sizeLine_eq]
          have := hl.2
          omega
        · cases e
      · cases e
    · cases e
theorem met_all : ∀ (ns acc : List Int), acc.Nodup → (ns.foldl (fun acc x => if x ∈ acc then acc else acc ++ [x]) acc).Nodup ∧ (∀ k, k ∈ ns.foldl (fun acc x => if x ∈ acc then acc else acc ++ [x]) acc ↔ k ∈ acc ∨ k ∈ ns) ∧ (ns.foldl (fun acc x => if x ∈ acc then acc else acc ++ [x]) acc).length ≤ acc.length + ns.length
  | [], acc, nd => ⟨nd, fun k => by simp, Nat.le_add_right _ _⟩
  | n :: ns, acc, nd => by
    rw [List.foldl_cons]
    by_cases h : n ∈ acc
    · rw [if_pos h]
      obtain ⟨h1, h2, h3⟩ := met_all ns acc nd
      refine ⟨h1, fun k => ?_, by simp; omega⟩
      rw [h2 k, List.mem_cons]
      constructor
      · rintro (h | h)
        · exact .inl h
        · exact .inr (.inr h)
      · rintro (h' | h' | h')
        · exact .inl h'
        · exact .inl (by rw [h']; exact h)
        · exact .inr h'
    · rw [if_neg h]
      obtain ⟨h1, h2, h3⟩ := met_all ns (acc ++ [n]) (by
        rw [List.nodup_append]
        refine ⟨nd, by simp, fun a ha b hb e => h ?_⟩
        rw [← List.mem_singleton.mp hb, ← e]
        exact ha)
      refine ⟨h1, fun k => ?_, by simp at h3 ⊢; omega⟩
      rw [h2 k, List.mem_append, List.mem_singleton, List.mem_cons]
      exact or_assoc
theorem e_lset {p p2 cpos : Pos} (hc : X.calm = true) (hg : Gl X "len") (hm : X.mg "len" = none) (hg2 : Gl X "set") (hm2 : X.mg "set" = none) (ha : PE X a (tM X.K B ma)) (hs : starEach [a] X.env = [(false, eval a X.env)]) :
    PE X (.Call (.Name "len" p) [.Call (.Name "set" p2) [a] [] cpos] [] pos) (tM X.K B fun env => M.bnd (ma env) fun x => lsetV x) :=
  peI (pe_lset hc hg hm hg2 hm2 ha hs) fun σ H Q ⟨env, α, h, z, h', g, er, e, q⟩ => by
    obtain ⟨x, h1, e1, e⟩ := bnd_some e
    unfold lsetV at e
    split at e
    · rename_i xs e2
      unfold lenS at e
      split at e
      · rename_i ns e3
        split at e
        · rename_i hl
          cases e
          refine ⟨env, α, h, _, _, g, er, e1, fun α1 H1 vx Lx p1 => ?_⟩
          obtain ⟨a, vs, M2, rfl, s, z1, t, b⟩ := seq_ok p1.good e2 p1.one
          have ev := ints_rel t e3
          subst ev
          obtain ⟨n1, n2, n3⟩ := met_all ns [] List.nodup_nil
          refine ⟨a, ns, rfl, s, by omega, met ns, n1, fun k => ?_, ?_, q _ _ _ _ (p1.dat (.int _))⟩
          · rw [show met ns = ns.foldl (fun acc x => if x ∈ acc then acc else acc ++ [x]) [] from rfl, n2 k]
            simp
          · have : (met ns).length ≤ [].length + ns.length := n3
            simp at this
            omega
        · cases e
      · cases e
    · cases e
/-! ### calls of defs -/
/-- a def's promise: what the evaluator's call says -/
def spC (K : PySem.W.Frag) (cf : List PV → M PV) (np : Nat) : Sp := fun vs H Q _ => ∃ B α0 H0 α h xs L z h', Psts K B α0 H0 α H h xs vs L ∧ xs.length = np ∧ cf xs h = some (z, h') ∧ Wnt K B α0 H0 z h' Q
theorem e_call {k : Nat} {f : Addr} {fd : FuncData} {ps : List Str} {cf : List PV → M PV} {x : Str} {p : Pos} (F : FnOk X.prog X.w X.K X.mg X.base CX0 k f fd ps (spC X.K cf ps.length)) (hr : Room k X.A) (hg : Gl X x) (hm : X.mg x = some (.ref f)) (hk : PySem.W.keepIn X.K (.ref f) = true) (hb : Binds X.K fd ps [])
    (ha : PA X (a :: es) (tMs X.K B ms)) (hd : (x == ("__debug__" : Str)) = false) (hs : starEach (a :: es) X.env = (false, eval a X.env) :: starEach es X.env) (hp : (List.any (backTo pos (starEach es X.env)) fun x => x.1) = false) (hnp : ∀ xs h r, cf xs h = some r → xs.length = ps.length) :
    PE X (.Call (.Name x p) (a :: es) [] pos) (tM X.K B fun env => M.bnd (ms env) fun xs => cf xs) :=
  peI (pe_call F hr hg hm hk hb .nil pass0 ha hd hs hp) fun σ H Q ⟨env, α, h, z, h', g, er, e, q⟩ => by
    obtain ⟨xs, h1, e1, e⟩ := bnd_some e
    refine ⟨env, α, h, xs, h1, g, er, e1, fun α1 H1 vs L p1 => ?_⟩
    show spC X.K cf ps.length (vs ++ []) H1 Q E0
    rw [List.append_nil]
    exact ⟨B, α, H, α1, h1, xs, L, z, h', p1, hnp _ _ _ e, e, q⟩
theorem e_call0 {k : Nat} {f : Addr} {fd : FuncData} {ps : List Str} {cf : List PV → M PV} {x : Str} {p : Pos} (F : FnOk X.prog X.w X.K X.mg X.base CX0 k f fd ps (spC X.K cf ps.length)) (hr : Room k X.A) (hg : Gl X x) (hm : X.mg x = some (.ref f)) (hk : PySem.W.keepIn X.K (.ref f) = true) (hb : Binds X.K fd ps [])
    (hd : (x == ("__debug__" : Str)) = false) (hnp : ∀ xs h r, cf xs h = some r → xs.length = ps.length) : PE X (.Call (.Name x p) [] [] pos) (tM X.K B fun env => M.bnd (M.ret []) fun xs => cf xs) :=
  peI (pe_call0 F hr hg hm hk hb .nil pass0 hd) fun σ H Q ⟨env, α, h, z, h', g, er, e, q⟩ => by
    obtain ⟨xs, h1, e1, e⟩ := bnd_some e
    obtain ⟨rfl, rfl⟩ := ret_some e1
    exact ⟨B, α, H, α, _, [], [], z, h', Psts.nil g, hnp _ _ _ e, e, q⟩

/-! ### targets -/
mutual
def T.slots : T → List Nat
  | .nm i => [i]
  | .tup ts => T.slotss ts
def T.slotss : List T → List Nat
  | [] => []
  | t :: ts => T.slots t ++ T.slotss ts
end
/-- beyond these slots nothing is changed -/
def SameBut (l : List Nat) (σ σ' : L2.St) : Prop := σ'.length = σ.length ∧ ∀ i, i ∉ l → σ'[i]? = σ[i]?
/-- more cells: out of what was owned -/
def After (α L α' : List Addr) : Prop := (∀ (n : Nat) a, α[n]? = some a → α'[n]? = some a) ∧ ∀ a ∈ α', a ∈ α ∨ a ∈ L
def tT (K : PySem.W.Frag) (B : List Nat) (tg : T) : TG := fun v σ H Q => ∃ α0 H0 α h env x L env' h', Psts K B α0 H0 α H h [x] [v] L ∧ EnvR K α H env σ ∧ bindT tg x env h = some (env', h') ∧
  ∀ α' σ', Step α0 H0 α' H → Good K B α' h' H → EnvR K α' H env' σ' → SameBut tg.slots σ σ' → After α L α' → Q σ' H
def tTs (K : PySem.W.Frag) (B : List Nat) (tgs : List T) : TGs := fun vs σ H Q => ∃ α0 H0 α h env xs L env' h', Psts K B α0 H0 α H h xs vs L ∧ EnvR K α H env σ ∧ bindTs tgs xs env h = some (env', h') ∧
  ∀ α' σ', Step α0 H0 α' H → Good K B α' h' H → EnvR K α' H env' σ' → SameBut (T.slotss tgs) σ σ' → After α L α' → Q σ' H
theorem g_nm {i : Nat} {x : Str} (hN : X.N.Nodup) (hi : X.N[i]? = some x) (hx : L2.Loc X.env.scope x) (hf : X.fn x = true ∨ X.env.scope.names.lookup x = some .local) : PG X (.Name x pos) (tT K B (.nm i)) :=
  pgI (pg_name hN hi hx hf) fun v σ H Q ⟨α0, H0, α, h, env, y, L, env', h', p, er, e, q⟩ => by
    unfold bindT at e
    split at e
    · cases e
      obtain ⟨α', p1, hix, hm⟩ := p.conv
      refine q α' _ p1.step p1.good ((er.same hix).set p1.one) ⟨by rw [List.length_set], fun j hj => ?_⟩ ⟨hix, hm⟩
      rw [List.getElem?_set_ne]
      intro z
      exact hj (by rw [z]; exact List.mem_singleton.mpr rfl)
    · cases e
theorem gs_nil : PGs X [] (tTs K B []) := pgsI pgs_nil fun vs σ H Q ⟨α0, H0, α, h, env, xs, L, env', h', p, er, e, q⟩ => by
  cases xs with
  | nil =>
    have e' : M.ret env h = some (env', h') := e
    obtain ⟨rfl, rfl⟩ := ret_some e'
    have r := p.rel
    cases r
    exact ⟨rfl, q α σ p.step p.good er ⟨rfl, fun _ _ => rfl⟩ ⟨fun _ _ e => e, fun _ h => .inl h⟩⟩
  | cons x xs => cases e
theorem gs_cons {t : T} {ts : List T} (h1 : PG X a (tT K B t)) (h2 : PGs X es (tTs K B ts)) (hs : (assignEach (a :: es) X.env).map (·.2) = assign a X.env :: (assignEach es X.env).map (·.2)) : PGs X (a :: es) (tTs K B (t :: ts)) :=
  pgsI (pgs_cons h1 h2 hs) fun vs σ H Q ⟨α0, H0, α, h, env, xs, L, env', h', p, er, e, q⟩ => by
    cases xs with
    | nil => cases e
    | cons x xs =>
      have e' : M.bnd (bindT t x env) (fun env1 => bindTs ts xs env1) h = some (env', h') := e
      obtain ⟨env1, h1, e1, e2⟩ := bnd_some e'
      obtain ⟨v, ws, M, N, rfl, rfl, r1, r2⟩ := p.rel.uncons
      obtain ⟨d1, d2, d3⟩ := List.nodup_append.mp p.nd
      refine ⟨v, ws, rfl, α0, H0, α, h, env, x, M, env1, h1, p.to r1.ones (List.sublist_append_left _ _), er, e1, fun α1 σ1 s1 g1 er1 sb1 af1 => ?_⟩
      have p1 : Psts K B α0 H0 α1 H h1 xs ws N := ⟨s1, g1, r2.same af1.1, d2, fun a ha z => by
        rcases af1.2 a z with z | z
        · exact p.out a (List.mem_append_right _ ha) z
        · exact d3 a z a ha rfl, fun a ha => p.fr a (List.mem_append_right _ ha)⟩
      refine ⟨α0, H0, α1, h1, env1, xs, N, env', h', p1, er1, e2, fun α2 σ2 s2 g2 er2 sb2 af2 => q α2 σ2 s2 g2 er2 ⟨sb2.1.trans sb1.1, fun i hi => ?_⟩ ⟨fun n a e => af2.1 n a (af1.1 n a e), fun a ha => ?_⟩⟩
      · have n1 : i ∉ t.slots := fun z => hi (List.mem_append_left _ z)
        have n2 : i ∉ T.slotss ts := fun z => hi (List.mem_append_right _ z)
        exact (sb2.2 i n2).trans (sb1.2 i n1)
      · rcases af2.2 a ha with z | z
        · exact (af1.2 a z).imp id (List.mem_append_left _)
        · exact .inr (List.mem_append_right _ z)
theorem g_tup {ts : List T} {k : Nat} (hc : X.calm = true) (h : PGs X es (tTs X.K B ts)) (hl : es.length = ts.length) (hn : (assignEach es X.env).length = es.length) (hst : (assignEach es X.env).findIdx? (·.1) = none) : PG X (.Tuple es k pos) (tT X.K B (.tup ts)) :=
  pgI (pg_tup hc h hn hst) fun v σ H Q ⟨α0, H0, α, h, env, x, L, env', h', p, er, e, q⟩ => by
    have e' : (match tupOf x with
      | some xs => bindTs ts xs env
      | none => M.no) h = some (env', h') := e
    cases e2 : tupOf x with
    | some xs =>
      rw [e2] at e'
      replace e : bindTs ts xs env h = some (env', h') := e'
      obtain ⟨a, vs, rfl, s, z, r⟩ := tup_ok e2 p.one
      have len : ∀ (ts : List T) (xs : List PV) (env : Env) (h : Hs) (r : Env × Hs), bindTs ts xs env h = some r → xs.length = ts.length := by
        intro ts
        induction ts with
        | nil => intro xs env h r e; cases xs with
          | nil => rfl
          | cons x xs => cases e
        | cons t ts ih => intro xs env h r e; cases xs with
          | nil => cases e
          | cons x xs =>
            obtain ⟨env1, h1, _, e2⟩ := bnd_some (show M.bnd (bindT t x env) (fun env1 => bindTs ts xs env1) h = some r from e)
            rw [List.length_cons, List.length_cons, ih xs env1 h1 r e2]
      have hx := len ts xs env h _ e
      exact ⟨a, vs, rfl, s, by rw [← r.length, hx, hl], α0, H0, α, h, env, xs, L, env', h', p.to r (List.Sublist.refl _), er, e, q⟩
    | none =>
      rw [e2] at e'
      cases e'
end
end Pe
/-! Pe: what is walked, comprehensions, statements. -/
namespace Pe
open PySem PySem.Spec PyProof.Rows L2 RZ

section
variable {X : Cx} {K : PySem.W.Frag} {B : List Nat} {α0 α α' : List Addr} {H0 H H' : Hp} {h h' h1 : Hs} {v x : PV} {u : V} {L M : List Addr} {xs : List PV}
/-! ### sources -/
def SrcL (K : PySem.W.Frag) (B : List Nat) (s : Src) (α : List Addr) (H : Hp) (a : Addr) : Prop := ∀ α' H' h', Step α H α' H' → Good K B α' h' H' → ∀ xs, s.items h' = some xs → ∃ vs, SqL K H' a vs ∧ PRs K α' H' xs vs []
def SrcT (K : PySem.W.Frag) (B : List Nat) (s : Src) (α : List Addr) (H : Hp) (a : Addr) : Prop := ∀ α' H' h', Step α H α' H' → Good K B α' h' H' → ∀ xs, s.items h' = some xs → ∃ vs, SqT K H' a vs ∧ PRs K α' H' xs vs []
theorem cell_some {n : Nat} {h : Hs} {xs : List PV} (e : (Src.cell n).items h = some xs) : h[n]? = some (.lst xs) := by
  have e' : (match h[n]? with
    | some (.lst xs) => some xs
    | none => none) = some xs := e
  cases q : h[n]? with
  | none =>
    rw [q] at e'
    cases e'
  | some c =>
    rw [q] at e'
    cases c with
    | lst ys => cases e'; rfl
theorem cell_of {n : Nat} {h : Hs} {xs : List PV} (e : h[n]? = some (.lst xs)) : (Src.cell n).items h = some xs := by
  show (match h[n]? with
    | some (.lst xs) => some xs
    | none => none) = some xs
  rw [e]
theorem src_cell {n : Nat} {a : Addr} (e : α[n]? = some a) : SrcL K B (.cell n) α H a := fun α' H' h' s g xs ex => by
  obtain ⟨vs, e1, _, r⟩ := g.cell n _ a (cell_some ex) (s.ix n a e)
  exact ⟨vs, .inl (.inl e1), r⟩
theorem cell_items (g : Good K B α h H) {n : Nat} {a : Addr} (e : α[n]? = some a) : ∃ xs, (Src.cell n).items h = some xs := by
  have hn : n < h.length := by rw [← g.len]; exact (List.getElem?_eq_some_iff.mp e).1
  have e2 : h[n]? = some h[n] := List.getElem?_eq_getElem hn
  cases q : h[n] with
  | lst xs =>
    rw [q] at e2
    exact ⟨xs, cell_of e2⟩
theorem items_imm {xs ys : List PV} {h : Hs} (e : (Src.imm xs).items h = some ys) : ys = xs := by
  cases e
  rfl
theorem src0_ok {s : Src} (p : Psts K B α0 H0 α H h [v] [u] L) (e : srcOf0 v = some s) :
    ∃ a, u = .ref a ∧ (∃ xs, s.items h = some xs) ∧ ((SrcL K B s α H a ∧ (tupOf v).isSome = false) ∨ (SrcT K B s α H a ∧ (tupOf v).isSome = true)) := by
  have r := p.one
  unfold srcOf0 at e
  split at e
  · cases e
    cases r with
    | ref q => exact ⟨_, rfl, cell_items p.good q, .inl ⟨src_cell q, rfl⟩⟩
  · rename_i xs
    split at e
    · rename_i ds q
      cases e
      have ed := allD_some q
      cases r with
      | @tl a vs _ L' ha z r =>
        subst ed
        obtain ⟨rd, rfl⟩ := r.to_ds
        refine ⟨a, rfl, ⟨_, rfl⟩, .inl ⟨fun α' H' h' st g ys ey => ?_, rfl⟩⟩
        have := items_imm ey
        subst this
        exact ⟨vs, .inl (.inl (st.keep _ _ ha (p.out a List.mem_cons_self))), PRs.of_ds (DRs.keep (p.good.kept st) _ _ rd)⟩
    · cases e
  · cases e
    cases r with
    | @fl a vs _ ha z rd =>
      refine ⟨a, rfl, ⟨_, rfl⟩, .inl ⟨fun α' H' h' st g ys ey => ?_, rfl⟩⟩
      have := items_imm ey
      subst this
      exact ⟨vs, (ha.keep' fun _ _ e => (p.good.kept st).frz e).sql, PRs.of_ds (DRs.keep (p.good.kept st) _ _ rd)⟩
  · cases e
    obtain ⟨a, vs, rfl, rfl, hq, z, rd⟩ := r.tup_inv
    refine ⟨a, rfl, ⟨_, rfl⟩, .inr ⟨fun α' H' h' st g ys ey => ?_, rfl⟩⟩
    have := items_imm ey
    subst this
    exact ⟨vs, (p.good.kept st).sqt hq, PRs.of_ds (DRs.keep (p.good.kept st) _ _ rd)⟩
  · cases e
theorem srcOf_ok {s : Src} (p : Psts K B α0 H0 α H h [v] [u] L) (e : srcOf v h = some (s, h1)) :
    ∃ α1 a, u = .ref a ∧ Step α0 H0 α1 H ∧ Good K B α1 h1 H ∧ After α L α1 ∧ (∃ xs, s.items h1 = some xs) ∧ ((SrcL K B s α1 H a ∧ (tupOf v).isSome = false) ∨ (SrcT K B s α1 H a ∧ (tupOf v).isSome = true)) := by
  unfold srcOf at e
  cases q0 : srcOf0 v with
  | some s0 =>
    rw [q0] at e
    cases e
    obtain ⟨a, e1, e2, e3⟩ := src0_ok p q0
    exact ⟨α, a, e1, p.step, p.good, ⟨fun _ _ e => e, fun _ h => .inl h⟩, e2, e3⟩
  | none =>
    rw [q0] at e
    dsimp only at e
    have r := p.one
    split at e
    · rename_i xs
      cases e
      obtain ⟨α1, p1, hix, hm⟩ := p.conv
      have r1 : PR K α1 H (.ref (convs xs h).2.length) u [] := p1.one
      have g1 : Good K B α1 ((convs xs h).2 ++ [.lst (convs xs h).1]) H := p1.good
      cases r1 with
      | ref q1 => exact ⟨α1, _, rfl, p1.step, g1, ⟨hix, hm⟩, cell_items g1 q1, .inl ⟨src_cell q1, rfl⟩⟩
    · rename_i xs
      cases e
      cases r with
      | @mt a vs _ _ hq z r =>
        obtain ⟨α1, p1, hix, hm⟩ := (p.to r (List.Sublist.refl _)).convs
        refine ⟨α1, a, rfl, p1.step, p1.good, ⟨hix, hm⟩, ⟨_, rfl⟩, .inr ⟨fun α' H' h' st g ys ey => ?_, rfl⟩⟩
        have := items_imm ey
        subst this
        exact ⟨vs, (p1.good.kept st).sqt hq, PRs.keep (p1.good.kept st) st.ix _ _ _ p1.rel fun _ z => absurd z List.not_mem_nil⟩
    · cases e
theorem SrcL.later {s : Src} {a : Addr} (w : SrcL K B s α H a) (st : Step α H α' H') : SrcL K B s α' H' a := fun α2 H2 h2 s2 g2 => w α2 H2 h2 (st.trans s2) g2
theorem SrcT.later {s : Src} {a : Addr} (w : SrcT K B s α H a) (st : Step α H α' H') : SrcT K B s α' H' a := fun α2 H2 h2 s2 g2 => w α2 H2 h2 (st.trans s2) g2

/-! ### walks -/
def Walk (K : PySem.W.Frag) (B : List Nat) (it : ItV) (α : List Addr) (H : Hp) (J : L2.It) : Prop := ∀ α' H' h', Step α H α' H' → Good K B α' h' H' → ∀ i,
  (it.at h' i = some none → J.stop i H') ∧ ∀ x, it.at h' i = some (some x) → J.go i H' ∧ ∀ v H2, J.yld i H' v H2 → Kept (fun _ => False) H' H2 ∧ PR K α' H2 x v []
theorem Kept.refl : Kept (fun _ => False) H H := ⟨fun _ z => z.elim, fun _ _ e _ => e⟩
theorem getElem?_none_le {α : Type} {xs : List α} {i : Nat} (e : xs[i]? = none) : xs.length ≤ i := List.getElem?_eq_none_iff.mp e
theorem walk_list {s : Src} {a : Addr} (w : SrcL K B s α H a) : Walk K B (.seq s) α H (Itl K a) := fun α' H' h' st g i => by
  refine ⟨fun e => ?_, fun x e => ?_⟩
  · obtain ⟨xs, e1, e2⟩ := map_some' e
    obtain ⟨vs, q, r⟩ := w α' H' h' st g xs e1
    exact ⟨vs, q, by rw [← r.length]; exact getElem?_none_le e2⟩
  · obtain ⟨xs, e1, e2⟩ := map_some' e
    obtain ⟨vs, q, r⟩ := w α' H' h' st g xs e1
    obtain ⟨v, M, e3, rx, sb⟩ := r.get e2
    have := List.sublist_nil.mp sb
    subst this
    refine ⟨⟨vs, v, q, e3⟩, fun v' H2 y => ?_⟩
    obtain ⟨rfl, y⟩ := y
    have := y vs q
    rw [e3] at this
    cases this
    exact ⟨.refl, rx⟩
theorem walk_tup {s : Src} {a : Addr} (w : SrcT K B s α H a) : Walk K B (.seq s) α H (Itt K a) := fun α' H' h' st g i => by
  refine ⟨fun e => ?_, fun x e => ?_⟩
  · obtain ⟨xs, e1, e2⟩ := map_some' e
    obtain ⟨vs, q, r⟩ := w α' H' h' st g xs e1
    exact ⟨vs, q, by rw [← r.length]; exact getElem?_none_le e2⟩
  · obtain ⟨xs, e1, e2⟩ := map_some' e
    obtain ⟨vs, q, r⟩ := w α' H' h' st g xs e1
    obtain ⟨v, M, e3, rx, sb⟩ := r.get e2
    have := List.sublist_nil.mp sb
    subst this
    refine ⟨⟨vs, v, q, e3⟩, fun v' H2 y => ?_⟩
    obtain ⟨rfl, y⟩ := y
    have := y vs q
    rw [e3] at this
    cases this
    exact ⟨.refl, rx⟩
theorem at_rng {lo : Int} {n i : Nat} {h : Hs} : (ItV.rng lo n).at h i = some (if i < n then some (.d (.int (lo + i))) else none) := rfl
theorem walk_rng {lo : Int} {n : Nat} : Walk K B (.rng lo n) α H (Itr lo n) := fun α' H' h' st g i => by
  rw [at_rng]
  by_cases hi : i < n
  · rw [if_pos hi]
    refine ⟨fun e => (nomatch (Option.some.inj e)), fun x e => ⟨hi, fun v H2 y => ?_⟩⟩
    obtain ⟨rfl, rfl⟩ := y
    have ex := Option.some.inj (Option.some.inj e)
    subst ex
    exact ⟨.refl, .d (.int _)⟩
  · rw [if_neg hi]
    exact ⟨fun _ => Nat.le_of_not_lt hi, fun x e => (nomatch (Option.some.inj e))⟩
/-- a new pair -/
theorem pair_rel {T : Addr} {x y : PV} {u w : V} (n : H T = none) (r1 : PR K α H x u []) (r2 : PR K α H y w []) : Kept (fun _ => False) H (upd H T (.tup [u, w])) ∧ PR K α (upd H T (.tup [u, w])) (mkTup [x, y]) (.ref T) [] := by
  have k := Kept.fresh (o := .tup [u, w]) n
  refine ⟨k, mkTup_rel (us := [u, w]) (.inl (.inl upd_same)) (by show 2 ≤ sizeLine; decide) ?_⟩
  have ix : ∀ (n : Nat) a, α[n]? = some a → α[n]? = some a := fun _ _ e => e
  exact .cons (L := []) (PR.keep k ix _ _ _ r1 fun _ _ z => z) (.cons (L := []) (PR.keep k ix _ _ _ r2 fun _ _ z => z) .nil)
theorem walk_enum {s : Src} {a : Addr} (w : SrcL K B s α H a) : Walk K B (.enum s) α H (Ite K a) := fun α' H' h' st g i => by
  refine ⟨fun e => ?_, fun x e => ?_⟩
  · obtain ⟨xs, e1, e2⟩ := map_some' e
    obtain ⟨vs, q, r⟩ := w α' H' h' st g xs e1
    exact ⟨vs, q, by rw [← r.length]; exact getElem?_none_le (Option.map_eq_none_iff.mp e2)⟩
  · obtain ⟨xs, e1, e2⟩ := map_some' e
    obtain ⟨vs, q, r⟩ := w α' H' h' st g xs e1
    obtain ⟨y, e4, e5⟩ := map_some' e2
    obtain ⟨v, M, e3, rx, sb⟩ := r.get e4
    have := List.sublist_nil.mp sb
    subst this e5
    refine ⟨⟨vs, v, q, e3⟩, fun v' H2 yl => ?_⟩
    obtain ⟨T, z, rfl, nT, rfl, yl⟩ := yl
    have := yl vs q
    rw [e3] at this
    cases this
    exact pair_rel nT (.d (.int _)) rx
def zipAt (xs ys : List PV) (i : Nat) : Option PV := match xs[i]?, ys[i]? with
  | some x, some y => some (mkTup [x, y])
  | _, _ => none
theorem at_zip {s t : Src} {h : Hs} {xs ys : List PV} {i : Nat} (e1 : s.items h = some xs) (e2 : t.items h = some ys) : (ItV.zip s t).at h i = some (zipAt xs ys i) := by
  show (match s.items h, t.items h with
    | some xs, some ys => some (zipAt xs ys i)
    | _, _ => none) = _
  rw [e1, e2]
theorem at_zipN {s t : Src} {h : Hs} {i : Nat} (e : s.items h = none ∨ t.items h = none) : (ItV.zip s t).at h i = none := by
  show (match s.items h, t.items h with
    | some xs, some ys => some (zipAt xs ys i)
    | _, _ => none) = _
  rcases e with e | e
  · rw [e]
  · rw [e]
    cases s.items h <;> rfl
theorem walk_zip {s t : Src} {a b : Addr} (w : SrcL K B s α H a) (w2 : SrcL K B t α H b) : Walk K B (.zip s t) α H (Itz K a b) := fun α' H' h' st g i => by
  cases e1 : s.items h' with
  | none => exact ⟨fun e => absurd e (by rw [at_zipN (.inl e1)]; exact fun z => nomatch z), fun x e => absurd e (by rw [at_zipN (.inl e1)]; exact fun z => nomatch z)⟩
  | some xs =>
    cases e2 : t.items h' with
    | none => exact ⟨fun e => absurd e (by rw [at_zipN (.inr e2)]; exact fun z => nomatch z), fun x e => absurd e (by rw [at_zipN (.inr e2)]; exact fun z => nomatch z)⟩
    | some ys =>
      obtain ⟨vs, q, r⟩ := w α' H' h' st g xs e1
      obtain ⟨us, q2, r2⟩ := w2 α' H' h' st g ys e2
      rw [at_zip e1 e2]
      unfold zipAt
      cases e3 : xs[i]? with
      | none => exact ⟨fun _ => ⟨vs, us, q, q2, .inl (by rw [← r.length]; exact getElem?_none_le e3)⟩, fun x e => (nomatch (Option.some.inj e))⟩
      | some x =>
        cases e4 : ys[i]? with
        | none => exact ⟨fun _ => ⟨vs, us, q, q2, .inr (by rw [← r2.length]; exact getElem?_none_le e4)⟩, fun x e => (nomatch (Option.some.inj e))⟩
        | some y =>
          refine ⟨fun e => (nomatch (Option.some.inj e)), fun z e => ?_⟩
          have ez := Option.some.inj (Option.some.inj e)
          subst ez
          obtain ⟨v, M, e5, rx, sb⟩ := r.get e3
          obtain ⟨u, N, e6, ry, sb2⟩ := r2.get e4
          have n1 := List.sublist_nil.mp sb
          have n2 := List.sublist_nil.mp sb2
          subst n1 n2
          refine ⟨⟨vs, us, v, u, q, q2, e5, e6⟩, fun v' H2 yl => ?_⟩
          obtain ⟨T, c, d, rfl, nT, rfl, y1, y2⟩ := yl
          have h1 := Option.some.inj ((y1 vs q).symm.trans e5)
          have h2 := Option.some.inj ((y2 us q2).symm.trans e6)
          subst h1 h2
          exact pair_rel nT rx ry
theorem walk_zipT {s t : Src} {a b : Addr} (w : SrcT K B s α H a) (w2 : SrcT K B t α H b) : Walk K B (.zip s t) α H (ItzT K a b) := fun α' H' h' st g i => by
  cases e1 : s.items h' with
  | none => exact ⟨fun e => absurd e (by rw [at_zipN (.inl e1)]; exact fun z => nomatch z), fun x e => absurd e (by rw [at_zipN (.inl e1)]; exact fun z => nomatch z)⟩
  | some xs =>
    cases e2 : t.items h' with
    | none => exact ⟨fun e => absurd e (by rw [at_zipN (.inr e2)]; exact fun z => nomatch z), fun x e => absurd e (by rw [at_zipN (.inr e2)]; exact fun z => nomatch z)⟩
    | some ys =>
      obtain ⟨vs, q, r⟩ := w α' H' h' st g xs e1
      obtain ⟨us, q2, r2⟩ := w2 α' H' h' st g ys e2
      rw [at_zip e1 e2]
      unfold zipAt
      cases e3 : xs[i]? with
      | none => exact ⟨fun _ => ⟨vs, us, q, q2, .inl (by rw [← r.length]; exact getElem?_none_le e3)⟩, fun x e => (nomatch (Option.some.inj e))⟩
      | some x =>
        cases e4 : ys[i]? with
        | none => exact ⟨fun _ => ⟨vs, us, q, q2, .inr (by rw [← r2.length]; exact getElem?_none_le e4)⟩, fun x e => (nomatch (Option.some.inj e))⟩
        | some y =>
          refine ⟨fun e => (nomatch (Option.some.inj e)), fun z e => ?_⟩
          have ez := Option.some.inj (Option.some.inj e)
          subst ez
          obtain ⟨v, M, e5, rx, sb⟩ := r.get e3
          obtain ⟨u, N, e6, ry, sb2⟩ := r2.get e4
          have n1 := List.sublist_nil.mp sb
          have n2 := List.sublist_nil.mp sb2
          subst n1 n2
          refine ⟨⟨vs, us, v, u, q, q2, e5, e6⟩, fun v' H2 yl => ?_⟩
          obtain ⟨T, c, d, rfl, nT, rfl, y1, y2⟩ := yl
          have h1 := Option.some.inj ((y1 vs q).symm.trans e5)
          have h2 := Option.some.inj ((y2 us q2).symm.trans e6)
          subst h1 h2
          exact pair_rel nT rx ry
end

def tIt (K : PySem.W.Frag) (B : List Nat) (m : Env → M ItV) : TI := fun σ H R => ∃ env α h it h', Good K B α h H ∧ EnvR K α H env σ ∧ m env h = some (it, h') ∧ ∀ α' H' J, Step α H α' H' → Good K B α' h' H' → Walk K B it α' H' J → R J H'
section
variable {X : Cx} {K : PySem.W.Frag} {B : List Nat} {fb : Nat} {a b c tg : Expr} {ma mb mc : Env → M PV} {pos : Pos}
def iRgv (tl : TE) : TI := fun σ H R => tl σ H fun x H1 => ∃ a hi, x = .ref a ∧ H1 a = some (.rng 0 hi) ∧ -(2 ^ 62) ≤ hi ∧ hi < 2 ^ 62 ∧ R (Itr 0 hi.toNat) H1
/-- a range that lies in a variable -/
theorem pi_rgv {l : Expr} {tl : TE} (hl : PE X l tl) : PI X tg l (iRgv tl) := by
  refine ⟨fun pins s σ H R I h => ?_⟩
  refine thn (hl.run pins s σ H _ I h) fun v s1 ⟨x, H1, I1, r1, q1⟩ => ?_
  obtain ⟨a, hi, e, hq, b1, b2, q⟩ := q1
  subst e
  cases r1
  obtain ⟨t, u, w, ho⟩ := I1.hok a _ hq
  refine wpAny_pyIter_range (ho : IsRange s1.heap a 0 hi 1 t u w) (small_one (by decide) (by decide) b1 b2) ?_
  refine ⟨s1.heap.objs.size, [s1.heap.objs.size], _, _, H1, rfl, I1.kept (t' := s1.toks) fun b o e => Heap.get?_push_of_some _ e, turn_range _ 0 hi.toNat, ?_, fun b hb => ?_, q⟩
  · have e1 : (0 : Int) + ((0 : Nat) : Int) * 1 = 0 := by simp
    have e2 : ((hi.toNat : Nat) : Int) - ((0 : Nat) : Int) = Builtin.Range.rangeSize 0 hi 1 := by rw [rangeSize_one]; split <;> omega
    show IsRangeIter _ _ ((0 : Int) + ((0 : Nat) : Int) * 1) (((hi.toNat : Nat) : Int) - ((0 : Nat) : Int)) 1
    rw [e1, e2]
    exact Heap.get?_push_size _ rfl
  · have e : b = s1.heap.objs.size := by simpa using hb
    subst e
    exact I1.fpOk (Nat.le_refl _) (I1.hok.fresh (Nat.le_refl _))
def mSeq (ma : Env → M PV) : Env → M ItV := fun env => M.bnd (ma env) fun v => seqM v
theorem seqM_no {v : PV} (nr : isRg v = false) : seqM v = M.bnd (srcOf v) fun s => M.ret (.seq s) := by
  cases v <;> first | rfl | cases nr
theorem i_seq (ha : PE X a (tM X.K B ma)) : PI X tg a (tIt X.K B (mSeq ma)) :=
  piI (piOr (piOr (pi_list ha) (pi_tup ha)) (pi_rgv ha)) fun σ H R ⟨env, α, h, it, h', g, er, e, q⟩ => by
    obtain ⟨v, h1, e1, e⟩ := bnd_some e
    cases nr : isRg v with
    | true =>
      cases v with
      | rg n =>
        obtain ⟨rfl, rfl⟩ := ret_some e
        refine .inr ⟨env, α, h, _, _, g, er, e1, fun α1 H1 u L p1 => ?_⟩
        have r := p1.one
        cases r with
        | rg hq hb he =>
          subst he
          exact ⟨_, _, rfl, hq, hb.1, hb.2, q α1 H1 _ p1.step p1.good walk_rng⟩
      | fd es =>
        obtain ⟨s, h2, e2, e3⟩ := bnd_some (show M.bnd (srcOf (.fd es)) (fun s => M.ret (.seq s)) h1 = some (it, h') from e)
        cases e2
      | _ => cases nr
    | false =>
    rw [seqM_no nr] at e
    obtain ⟨s, h2, e2, e3⟩ := bnd_some e
    obtain ⟨rfl, rfl⟩ := ret_some e3
    refine .inl ?_
    cases k : (tupOf v).isSome with
    | false =>
      refine .inl ⟨env, α, h, v, h1, g, er, e1, fun α1 H1 u L p1 => ?_⟩
      obtain ⟨α2, ad, rfl, s2, g2, _, ⟨xs, ex⟩, w⟩ := srcOf_ok p1 e2
      rcases w with ⟨w, _⟩ | ⟨_, z⟩
      · obtain ⟨vs, sq, _⟩ := w α2 H1 _ .refl g2 xs ex
        exact ⟨ad, rfl, ⟨vs, sq⟩, q α2 H1 _ s2 g2 (walk_list w)⟩
      · rw [k] at z
        cases z
    | true =>
      refine .inr ⟨env, α, h, v, h1, g, er, e1, fun α1 H1 u L p1 => ?_⟩
      obtain ⟨α2, ad, rfl, s2, g2, _, ⟨xs, ex⟩, w⟩ := srcOf_ok p1 e2
      rcases w with ⟨_, z⟩ | ⟨w, _⟩
      · rw [k] at z
        cases z
      · obtain ⟨vs, sq, _⟩ := w α2 H1 _ .refl g2 xs ex
        exact ⟨ad, rfl, ⟨vs, sq⟩, q α2 H1 _ s2 g2 (walk_tup w)⟩
def mArg1 (ma : Env → M PV) : Env → M (List PV) := fun env => M.bnd (ma env) fun x => M.bnd (M.ret []) fun xs => M.ret (x :: xs)
def mArg2 (ma mb : Env → M PV) : Env → M (List PV) := fun env => M.bnd (ma env) fun x => M.bnd (mArg1 mb env) fun xs => M.ret (x :: xs)
theorem arg1_eq {env : Env} {h h1 : Hs} {v : PV} (e : ma env h = some (v, h1)) : mArg1 ma env h = some ([v], h1) := by
  unfold mArg1 M.bnd
  rw [e]
  rfl
theorem arg2_eq {env : Env} {h h1 h2 : Hs} {v w : PV} (e : ma env h = some (v, h1)) (e2 : mb env h1 = some (w, h2)) : mArg2 ma mb env h = some ([v, w], h2) := by
  unfold mArg2 M.bnd
  rw [e]
  dsimp only
  rw [arg1_eq e2]
  rfl
def mRng1 (ma : Env → M PV) : Env → M ItV := fun env => M.bnd (ma env) fun v => match v with
  | .d (.int j) => rngV 0 j
  | _ => M.no
def mRng2 (ma mb : Env → M PV) : Env → M ItV := fun env => M.bnd (ma env) fun v => M.bnd (mb env) fun w => match v, w with
  | .d (.int i), .d (.int j) => rngV i j
  | _, _ => M.no
theorem rngV_some {lo hi : Int} {h h' : Hs} {it : ItV} (e : rngV lo hi h = some (it, h')) : (-(2 ^ 62) ≤ lo ∧ lo < 2 ^ 62 ∧ -(2 ^ 62) ≤ hi ∧ hi < 2 ^ 62) ∧ it = .rng lo (hi - lo).toNat ∧ h' = h := by
  unfold rngV at e
  split at e
  · rename_i hb
    cases e
    exact ⟨hb, rfl, rfl⟩
  · cases e
theorem rng1_inv {v : PV} {h : Hs} {r : ItV × Hs} (e : (match v with
  | .d (.int j) => rngV 0 j
  | _ => M.no) h = some r) : ∃ j, v = .d (.int j) ∧ rngV 0 j h = some r := by
  split at e
  · exact ⟨_, rfl, e⟩
  · cases e
theorem rng2_inv {v w : PV} {h : Hs} {r : ItV × Hs} (e : (match v, w with
  | .d (.int i), .d (.int j) => rngV i j
  | _, _ => M.no) h = some r) : ∃ i j, v = .d (.int i) ∧ w = .d (.int j) ∧ rngV i j h = some r := by
  split at e
  · exact ⟨_, _, rfl, rfl, e⟩
  · cases e
theorem i_rng1 {p : Pos} (hg : Gl X "range") (hm : X.mg "range" = none) (ha : PA X [a] (tMs X.K B (mArg1 ma))) (hs : starEach [a] X.env = [(false, eval a X.env)]) : PI X tg (.Call (.Name "range" p) [a] [] pos) (tIt X.K B (mRng1 ma)) :=
  piI (pi_range1 hg hm ha hs) fun σ H R ⟨env, α, h, it, h', g, er, e, q⟩ => by
    obtain ⟨v, h1, e1, e⟩ := bnd_some e
    obtain ⟨j, rfl, e⟩ := rng1_inv e
    obtain ⟨⟨b1, b2, b3, b4⟩, rfl, rfl⟩ := rngV_some e
    refine ⟨env, α, h, [.d (.int j)], _, g, er, arg1_eq e1, fun α1 H1 vs L p1 => ?_⟩
    obtain ⟨v, ws, M, N, rfl, rfl, r1, r2⟩ := p1.rel.uncons
    cases r2
    obtain ⟨rfl, _⟩ := r1.int_inv
    refine ⟨j, rfl, b3, b4, q α1 H1 _ p1.step p1.good ?_⟩
    rw [Int.sub_zero]
    exact walk_rng
theorem i_rng2 {p : Pos} (hg : Gl X "range") (hm : X.mg "range" = none) (ha : PA X [a, b] (tMs X.K B (mArg2 ma mb))) (hs : starEach [a, b] X.env = [(false, eval a X.env), (false, eval b X.env)]) (hs2 : starEach [b] X.env = [(false, eval b X.env)]) : PI X tg (.Call (.Name "range" p) [a, b] [] pos) (tIt X.K B (mRng2 ma mb)) :=
  piI (pi_range2 hg hm ha hs hs2) fun σ H R ⟨env, α, h, it, h', g, er, e, q⟩ => by
    obtain ⟨v, h1, e1, e⟩ := bnd_some e
    obtain ⟨w, h2, e2, e⟩ := bnd_some e
    obtain ⟨i, j, rfl, rfl, e⟩ := rng2_inv e
    obtain ⟨bd, rfl, rfl⟩ := rngV_some e
    refine ⟨env, α, h, [.d (.int i), .d (.int j)], _, g, er, arg2_eq e1 e2, fun α1 H1 vs L p1 => ?_⟩
    obtain ⟨u, w, M, N, rfl, rfl, r1, r2⟩ := p1.rel.two
    obtain ⟨rfl, _⟩ := r1.int_inv
    obtain ⟨rfl, _⟩ := r2.int_inv
    exact ⟨i, j, rfl, bd, q α1 H1 _ p1.step p1.good walk_rng⟩
def mArg3 (ma mb mc : Env → M PV) : Env → M (List PV) := fun env => M.bnd (ma env) fun x => M.bnd (mArg2 mb mc env) fun xs => M.ret (x :: xs)
theorem arg3_eq {env : Env} {h h1 h2 h3 : Hs} {v w u : PV} (e : ma env h = some (v, h1)) (e2 : mb env h1 = some (w, h2)) (e3 : mc env h2 = some (u, h3)) : mArg3 ma mb mc env h = some ([v, w, u], h3) := by
  unfold mArg3 M.bnd
  rw [e]
  dsimp only
  rw [arg2_eq e2 e3]
  rfl
def mRngd (ma mb : Env → M PV) : Env → M ItV := fun env => M.bnd (ma env) fun v => M.bnd (mb env) fun w => match v, w with
  | .d (.int i), .d (.int j) => rngdV i j
  | _, _ => M.no
theorem rngd_inv {v w : PV} {h : Hs} {r : ItV × Hs} (e : (match v, w with
  | .d (.int i), .d (.int j) => rngdV i j
  | _, _ => M.no) h = some r) : ∃ i j, v = .d (.int i) ∧ w = .d (.int j) ∧ rngdV i j h = some r := by
  split at e
  · exact ⟨_, _, rfl, rfl, e⟩
  · cases e
theorem rngdV_some {lo hi : Int} {h h' : Hs} {it : ItV} (e : rngdV lo hi h = some (it, h')) : (-(2 ^ 62) ≤ lo ∧ lo < 2 ^ 62 ∧ -(2 ^ 62) ≤ hi ∧ hi < 2 ^ 62) ∧ it = .rngd lo (lo - hi).toNat ∧ h' = h := by
  unfold rngdV at e
  split at e
  · rename_i hb
    cases e
    exact ⟨hb, rfl, rfl⟩
  · cases e
theorem walk_rngd {α : List Addr} {H : Hp} {lo : Int} {n : Nat} : Walk K B (.rngd lo n) α H (Itc lo (-1) n) := fun α' H' h' st g i => by
  show (some (if i < n then some (PV.d (.int (lo - i))) else none) = some none → _) ∧ ∀ x, some (if i < n then some (PV.d (.int (lo - i))) else none) = some (some x) → _
  by_cases hi : i < n
  · rw [if_pos hi]
    refine ⟨fun e => (nomatch (Option.some.inj e)), fun x e => ⟨hi, fun v H2 y => ?_⟩⟩
    obtain ⟨rfl, rfl⟩ := y
    have ex := Option.some.inj (Option.some.inj e)
    subst ex
    rw [show lo + ((i : Nat) : Int) * (-1) = lo - i by omega]
    exact ⟨.refl, .d (.int _)⟩
  · rw [if_neg hi]
    exact ⟨fun _ => Nat.le_of_not_lt hi, fun x e => (nomatch (Option.some.inj e))⟩
theorem i_rngd {p : Pos} (hg : Gl X "range") (hm : X.mg "range" = none) (ha : PA X [a, b, c] (tMs X.K B (mArg3 ma mb fun _ => M.ret (.d (.int (-1)))))) (hs : starEach [a, b, c] X.env = (false, eval a X.env) :: starEach [b, c] X.env) (hpl : (backTo pos (starEach [b, c] X.env)).any (·.1) = false) : PI X tg (.Call (.Name "range" p) [a, b, c] [] pos) (tIt X.K B (mRngd ma mb)) :=
  piI (pi_range3 hg hm ha hs hpl) fun σ H R ⟨env, α, h, it, h', g, er, e, q⟩ => by
    obtain ⟨v, h1, e1, e⟩ := bnd_some e
    obtain ⟨w, h2, e2, e⟩ := bnd_some e
    obtain ⟨i, j, rfl, rfl, e⟩ := rngd_inv e
    obtain ⟨⟨b1, b2, b3, b4⟩, rfl, rfl⟩ := rngdV_some e
    refine ⟨env, α, h, [.d (.int i), .d (.int j), .d (.int (-1))], _, g, er, arg3_eq e1 e2 rfl, fun α1 H1 vs L p1 => ?_⟩
    obtain ⟨u, ws, M, N, rfl, rfl, r1, t⟩ := p1.rel.uncons
    obtain ⟨u2, u3, M2, N2, rfl, rfl, r2, r3⟩ := t.two
    obtain ⟨rfl, _⟩ := r1.int_inv
    obtain ⟨rfl, _⟩ := r2.int_inv
    obtain ⟨rfl, _⟩ := r3.int_inv
    exact ⟨i, j, -1, _, rfl, RgC.neg b1 b2 b3 b4, q α1 H1 _ p1.step p1.good walk_rngd⟩
def mEnum (ma : Env → M PV) : Env → M ItV := fun env => M.bnd (ma env) fun v => M.bnd (srcOf v) fun s => M.ret (.enum s)
def mZip (ma mb : Env → M PV) : Env → M ItV := fun env => M.bnd (ma env) fun v => M.bnd (mb env) fun w => if (tupOf v).isSome == (tupOf w).isSome then M.bnd (M.of (srcOf0 v)) fun s => M.bnd (M.of (srcOf0 w)) fun t => M.ret (.zip s t) else M.no
theorem of_some {α : Type} {o : Option α} {a : α} {h h' : Hs} (e : M.of o h = some (a, h')) : o = some a ∧ h' = h := by
  cases o with
  | none => cases e
  | some b => cases e; exact ⟨rfl, rfl⟩
theorem i_zip {p tpos : Pos} {elts : List Expr} {kk : Nat} (hg : Gl X "zip") (hm : X.mg "zip" = none) (ha : PA X [a, b] (tMs X.K B (mArg2 ma mb))) (hs : starEach [a, b] X.env = (false, eval a X.env) :: starEach [b] X.env) (hp : (List.any (backTo pos (starEach [b] X.env)) fun x => x.1) = false) :
    PI X (.Tuple elts kk tpos) (.Call (.Name "zip" p) [a, b] [] pos) (tIt X.K B (mZip ma mb)) :=
  piI (pi_zipA hg hm ha hs hp) fun σ H R ⟨env, α, h, it, h', g, er, e, q⟩ => by
    obtain ⟨v, h1, e1, e⟩ := bnd_some e
    obtain ⟨w, h2, e2, e⟩ := bnd_some e
    refine ⟨env, α, h, [v, w], h2, g, er, arg2_eq e1 e2, fun α1 H1 vs L p1 => ?_⟩
    split at e
    · rename_i hk
      obtain ⟨s, h3, e3, e⟩ := bnd_some e
      obtain ⟨t, h4, e4, e5⟩ := bnd_some e
      obtain ⟨rfl, rfl⟩ := ret_some e5
      obtain ⟨o3, rfl⟩ := of_some e3
      obtain ⟨o4, rfl⟩ := of_some e4
      obtain ⟨u, u2, M, N, rfl, rfl, r1, r2⟩ := p1.rel.two
      obtain ⟨ad, rfl, ⟨xs, ex⟩, w1⟩ := src0_ok (p1.to r1.ones (List.sublist_append_left _ _)) o3
      obtain ⟨bd, rfl, ⟨ys, ey⟩, w2⟩ := src0_ok (p1.to r2.ones (List.sublist_append_right _ _)) o4
      rcases w1 with ⟨w1, k1⟩ | ⟨w1, k1⟩
      · rcases w2 with ⟨w2, k2⟩ | ⟨w2, k2⟩
        · obtain ⟨vs, sq, _⟩ := w1 α1 H1 _ .refl p1.good xs ex
          obtain ⟨us, sq2, _⟩ := w2 α1 H1 _ .refl p1.good ys ey
          exact ⟨ad, bd, vs, us, rfl, .inl ⟨sq, sq2, q α1 H1 _ p1.step p1.good (walk_zip w1 w2)⟩⟩
        · rw [k1, k2] at hk
          cases hk
      · rcases w2 with ⟨w2, k2⟩ | ⟨w2, k2⟩
        · rw [k1, k2] at hk
          cases hk
        · obtain ⟨vs, sq, _⟩ := w1 α1 H1 _ .refl p1.good xs ex
          obtain ⟨us, sq2, _⟩ := w2 α1 H1 _ .refl p1.good ys ey
          exact ⟨ad, bd, vs, us, rfl, .inr ⟨sq, sq2, q α1 H1 _ p1.step p1.good (walk_zipT w1 w2)⟩⟩
    · cases e
end
end Pe
/-! Pe: enumerate over a tuple (the hand layer has it over a list). -/
namespace Pe
open PySem PySem.Spec PyProof.Rows L2 RZ
open AutoSeq1 (wpAny_loadPart')

/-- enumerate.__new__ of one thing whose iterator is known -/
theorem enum_new1 {v : Value} {o : Obj} {C : Heap → Prop} (b : Begins v o C) : Meets (Builtin.«enumerate.__new__» ⟨[.type "enumerate", v], []⟩) (fun _ R s => C s.heap ∧
    R (.ok (.ret (.ref (s.heap.push o).objs.size))) { s with heap := (s.heap.push o).push ⟨.type "enumerate", none, .fields #[.none, .bool false, .ref s.heap.objs.size, rawInt 0, .none, .none], #[]⟩ }) :=
  .of_wp fun prog w A R s h => by
    obtain ⟨hp, g, d, tk, os⟩ := s
    obtain ⟨c1, h⟩ := h
    have sub := sub_enumerate
    have it : ∀ {A' : Around} {E : Value → Shared → Prop} {Q : Value → Shared → Prop}, Q (.ref hp.objs.size) ⟨hp.push o, g, d, tk, os⟩ → wpAny (model prog w) A' (pyIter v) Q E ⟨hp, g, d, tk, os⟩ :=
      fun q => b.iter prog w _ _ ⟨hp, g, d, tk, os⟩ _ c1 q
    wp_walk using it
    refine wpAny_stack_any fun st => wpAny_pure ?_
    split
    · rename_i c _ _ _ _ _
      cases (c == Value.type "enumerate") <;> (wp_walk using it; exact ⟨_, rfl, h⟩)
    · wp_walk using it
      exact ⟨_, rfl, h⟩
theorem enum_call1 {prog : Program} {w : World} {A : Around} {E : Value → Shared → Prop} {s : Shared} {v : Value} {o : Obj} {C : Heap → Prop} {Q : Value → Shared → Prop} (b : Begins v o C) (c1 : C s.heap)
    (q : ∀ h', IsEnum h' (s.heap.objs.size + 1) s.heap.objs.size 0 .none → h'.get? s.heap.objs.size = some o → (∀ b o, s.heap.get? b = some o → h'.get? b = some o) → Q (.ref (s.heap.objs.size + 1)) { s with heap := h' }) :
    wpAny (model prog w) A (PySem.call (.type "enumerate") [v]) Q E s := by
  refine callType_new F.called_enumerate (by decide) (F.typeCall_enumerate_1 _) (F.newCall_enumerate_1 _)
    (fun obj => F.args_object_init_2 obj _) F.entry_enumerate_new (enum_new1 b) ⟨c1, ?_⟩
  have z : (s.heap.push o).objs.size = s.heap.objs.size + 1 := Heap.size_push ..
  have en : IsEnum ((s.heap.push o).push ⟨.type "enumerate", none, .fields #[.none, .bool false, .ref s.heap.objs.size, rawInt 0, .none, .none], #[]⟩) (s.heap.objs.size + 1) s.heap.objs.size 0 .none := by
    have t := Heap.get?_push_size (s.heap.push o) (o := ⟨.type "enumerate", none, .fields #[.none, .bool false, .ref s.heap.objs.size, rawInt 0, .none, .none], #[]⟩) rfl
    rw [z] at t
    exact t
  show _ ∧ _
  rw [z]
  exact ⟨⟨_, en, rfl⟩, q _ en (Heap.get?_push_of_some _ (Heap.get?_push_size _ b.free)) fun b o x => Heap.get?_push_of_some _ (Heap.get?_push_of_some _ x)⟩

/-- the tuple at a, each item in a new pair -/
def IteT (K : PySem.W.Frag) (a : Addr) : L2.It :=
  ⟨fun i H => ∃ (xs : List V) (x : V), SqT K H a xs ∧ xs[i]? = some x,
   fun i H v H' => ∃ T x, v = .ref T ∧ H T = none ∧ H' = upd H T (.tup [.int (i : Nat), x]) ∧ ∀ xs, SqT K H a xs → xs[i]? = some x,
   fun i H => ∃ xs : List V, SqT K H a xs ∧ xs.length ≤ i⟩
theorem enum_turnT {P : Program} {w : World} {K : PySem.W.Frag} {elts : List Expr} {kk : Nat} {tpos : Pos} (a e it : Addr) :
    Turn P w K (.Tuple elts kk tpos) (IteT K a) [e, it] e (fun i h => (∃ old, IsEnum h e it ((i : Nat) : Int) old) ∧ h.IsTupleIter it a i ∧ e ≠ it) where
  mem := List.mem_cons_self
  obj := fun i h st b hb => by
    obtain ⟨⟨old, he⟩, ⟨o, ho, hc, hd⟩, _⟩ := st
    simp only [List.mem_cons, List.not_mem_nil, or_false] at hb
    rcases hb with rfl | rfl
    · exact ⟨_, he, fun v q => nomatch q⟩
    · exact ⟨o, ho, fun v q => by rw [hd] at q; cases q⟩
  keep := fun i h h' st k => by
    obtain ⟨⟨old, he⟩, hi, hne⟩ := st
    exact ⟨⟨old, k e (by simp) _ he⟩, hi.at fun o q => k it (by simp) o q, hne⟩
  item := by
    intro X hP hw hK hc i pins s σ H E I hf st hg
    subst hP hw hK
    obtain ⟨⟨old, he⟩, hit, hne⟩ := st
    obtain ⟨xs, x, hq, hx⟩ := hg
    obtain ⟨its, rv, p, hz⟩ := I.tuple hq
    obtain ⟨u, hu, ru⟩ := rv.get hx
    have hel : e < s.heap.objs.size := Heap.lt_size he
    have hil : it < s.heap.objs.size := by
      obtain ⟨_, q, _⟩ := hit
      exact Heap.lt_size q
    have hai : a ≠ it := fun z => by
      subst z
      obtain ⟨o1, q1, c1, _⟩ := hit
      obtain ⟨o2, q2, c2, _⟩ := p
      rw [q1] at q2
      cases q2
      rw [c1] at c2
      exact absurd c2 (by decide)
    have hae : e ≠ a := fun z => by
      subst z
      obtain ⟨o2, q2, c2, _⟩ := p
      have q1 := he
      rw [q1] at q2
      have eo := Option.some.inj q2
      rw [← eo] at c2
      exact absurd (show Value.type "enumerate" = Value.type "tuple" from c2) (by decide)
    have hlt : i < its.toArray.size := by
      have := (List.getElem?_eq_some_iff.mp hu).1
      simpa using this
    have D := Draws.tuple (prog := X.prog) (w := X.w) (A := X.A.in1) (I.ok.hd hc) it a hai its.toArray
    refine wpAny_pyNext_enum_itemD D he ⟨hit, p⟩ hlt hne (by simp [hne, hae]) fun y h' tk py ho st' hT hsz hk => ?_
    have ey : y = u := by
      have : its[i]? = some y := by simpa using py
      rw [hu] at this
      cases this
      rfl
    subst ey
    refine ⟨_, rfl, wpAny_letOwnedTupleGo_enum (s := { s with heap := h', toks := tk + 1 }) ho fun h'' he' sb => ?_⟩
    have hT2 := (sb.2 _ (Nat.ne_of_gt hel)).trans hT
    have nw : ObjOk X.prog X.w (upd H s.heap.objs.size (.tup [.int (i : Nat), x])) h'' s.heap.objs.size (.tup [.int (i : Nat), x]) :=
      ⟨by show 2 ≤ sizeLine; decide, [.int i tk, y], .cons ⟨_, rfl⟩ (.cons ru .nil), ⟨_, hT2, rfl, _, rfl⟩⟩
    have kp : ∀ b ob, b ∉ [e, it] → s.heap.get? b = some ob → h''.get? b = some ob := fun b ob hb q =>
      (sb.2 b fun z => hb (by simp [z])).trans (hk b ob (fun z => hb (by simp [z])) (fun z => hb (by simp [z])) q)
    have I1 := I.turnedNew (t' := tk + 1) kp hf (Nat.le_refl _) nw
    refine ⟨.ref s.heap.objs.size, _, I1, rfl, ⟨_, x, rfl, I.hok.fresh (Nat.le_refl _), rfl, fun ys hy => ?_⟩, ⟨⟨y, ?_⟩, st'.1.at fun o q => (sb.2 it (Ne.symm hne)).trans q, hne⟩, fun b hb => ?_⟩
    · rw [I.tuple_inj hy hq]
      exact hx
    · have e1 : ((i + 1 : Nat) : Int) = (i : Int) + 1 := by omega
      rw [e1]
      exact he'
    · have hb' : b < s.heap.objs.size := by
        simp only [List.mem_cons, List.not_mem_nil, or_false] at hb
        rcases hb with z | z
        · rw [z]; exact hel
        · rw [z]; exact hil
      rw [upd_ne (Nat.ne_of_lt hb')]
      exact (hf b hb).1
  done := by
    intro X hP hw hK hc i pins s σ H E I hf st hg
    subst hP hw hK
    obtain ⟨⟨old, he⟩, hit, hne⟩ := st
    obtain ⟨xs, hq, hx⟩ := hg
    obtain ⟨its, rv, p, hz⟩ := I.tuple hq
    obtain ⟨f0, f1, f2, f3, f4, f5⟩ := hf it (by simp)
    have hl := rv.length
    have hai : a ≠ it := fun z => by
      subst z
      obtain ⟨o1, q1, c1, _⟩ := hit
      obtain ⟨o2, q2, c2, _⟩ := p
      rw [q1] at q2
      cases q2
      rw [c1] at c2
      exact absurd c2 (by decide)
    have hno : its.toArray[i]? = none := by
      have : its[i]? = none := List.getElem?_eq_none_iff.mpr (by omega)
      simpa using this
    have D : Draws X.prog X.w X.A.in1 it [it, a] i (fun _ _ => True) (fun j h => j = i ∧ h.IsTupleIter it a i ∧ h.IsTuple a its.toArray) :=
      { live := fun j h st => by
          obtain ⟨o, ho, _⟩ := st.2.1
          exact ⟨o, ho⟩
        frame := fun j h h' st k => ⟨st.1, st.2.1.at fun o e => k it (by simp) o e, st.2.2.at fun o e => k a (by simp) o e⟩
        item := fun j s Q E hj st _ => absurd st.1 (Nat.ne_of_lt hj)
        done := fun s Q E st hE => wpAny_nextOf_tuple_end (I.ok.hd hc) st.2.1 st.2.2 hno hE }
    exact wpAny_pyNext_enum_endD D he ⟨rfl, hit, p⟩ fun h' eb => ⟨rfl, I.turned (t' := s.toks) (fun b o hb q => eb b o hb q) f0 f1 f3 f4 f5⟩
  self := fun A i s Q E st h => by
    obtain ⟨⟨_, he⟩, _⟩ := st
    exact wpAny_pyIter_enum he h
def iEnumT (K : PySem.W.Frag) (ta : TA) : TI := fun σ H R => ta σ H fun vs H1 => ∃ a xs, vs = [.ref a] ∧ SqT K H1 a xs ∧ R (IteT K a) H1
theorem pi_enumT {X : Cx} {e : Expr} {ta : TA} {p pos tpos : Pos} {elts : List Expr} {kk : Nat} (hg : Gl X "enumerate") (hm : X.mg "enumerate" = none) (ha : PA X [e] ta) (hs : starEach [e] X.env = [(false, eval e X.env)]) :
    PI X (.Tuple elts kk tpos) (.Call (.Name "enumerate" p) [e] [] pos) (iEnumT X.K ta) := by
  refine ⟨fun pins s σ H R I h => ?_⟩
  refine Call_ (ld_blt I hg hm boot_enumerate (PyProof.Rows.callWith_type1 (thn (ha.run pos pins s σ H _ I h) fun us s1 ⟨vs, H1, I1, r1, q1⟩ => ?_) hs rfl))
  obtain ⟨a, xs, ex, hq, q⟩ := q1
  subst ex
  cases r1 with
  | cons r rr =>
    cases rr
    cases r
    obtain ⟨its, rv, tp, hz⟩ := I1.tuple hq
    refine enum_call1 (begins_tuple a its.toArray) tp fun h' he hit hk => wpAny_pyIter_enum he ?_
    have I2 : Inv X pins σ H1 { s1 with heap := h' } := I1.kept (t' := s1.toks) hk
    refine ⟨s1.heap.objs.size + 1, [s1.heap.objs.size + 1, s1.heap.objs.size], _, _, H1, rfl, I2, enum_turnT a _ s1.heap.objs.size, ⟨⟨.none, he⟩, ⟨_, hit, rfl, rfl⟩, Nat.succ_ne_self _⟩, fun b hb => ?_, q⟩
    have hle : s1.heap.objs.size ≤ b := by
      simp only [List.mem_cons, List.not_mem_nil, or_false] at hb
      rcases hb with z | z
      · rw [z]; exact Nat.le_add_right _ _
      · rw [z]; exact Nat.le_refl _
    exact I1.fpOk hle (I1.hok.fresh hle)

section
variable {X : Cx} {K : PySem.W.Frag} {B : List Nat} {α : List Addr} {H : Hp} {a : Expr} {ma : Env → M PV} {pos : Pos}
theorem walk_enumT {s : Src} {a : Addr} (w : SrcT K B s α H a) : Walk K B (.enum s) α H (IteT K a) := fun α' H' h' st g i => by
  refine ⟨fun e => ?_, fun x e => ?_⟩
  · obtain ⟨xs, e1, e2⟩ := map_some' e
    obtain ⟨vs, q, r⟩ := w α' H' h' st g xs e1
    exact ⟨vs, q, by rw [← r.length]; exact getElem?_none_le (Option.map_eq_none_iff.mp e2)⟩
  · obtain ⟨xs, e1, e2⟩ := map_some' e
    obtain ⟨vs, q, r⟩ := w α' H' h' st g xs e1
    obtain ⟨y, e4, e5⟩ := map_some' e2
    obtain ⟨v, M, e3, rx, sb⟩ := r.get e4
    have := List.sublist_nil.mp sb
    subst this e5
    refine ⟨⟨vs, v, q, e3⟩, fun v' H2 yl => ?_⟩
    obtain ⟨T, z, rfl, nT, rfl, yl⟩ := yl
    have := Option.some.inj ((yl vs q).symm.trans e3)
    subst this
    exact pair_rel nT (.d (.int _)) rx
theorem i_enum {p tpos : Pos} {elts : List Expr} {kk : Nat} (hg : Gl X "enumerate") (hm : X.mg "enumerate" = none) (ha : PA X [a] (tMs X.K B (mArg1 ma))) (hs : starEach [a] X.env = [(false, eval a X.env)]) : PI X (.Tuple elts kk tpos) (.Call (.Name "enumerate" p) [a] [] pos) (tIt X.K B (mEnum ma)) :=
  piI (piOr (pi_enum hg hm ha hs) (pi_enumT hg hm ha hs)) fun σ H R ⟨env, α, h, it, h', g, er, e, q⟩ => by
    obtain ⟨v, h1, e1, e⟩ := bnd_some e
    obtain ⟨s, h2, e2, e3⟩ := bnd_some e
    obtain ⟨rfl, rfl⟩ := ret_some e3
    cases k : (tupOf v).isSome with
    | false =>
      refine .inl ⟨env, α, h, [v], h1, g, er, arg1_eq e1, fun α1 H1 us L p1 => ?_⟩
      obtain ⟨u, ws, M, N, rfl, rfl, r1, r2⟩ := p1.rel.uncons
      cases r2
      obtain ⟨α2, ad, rfl, s2, g2, _, ⟨xs, ex⟩, w⟩ := srcOf_ok (p1.to r1.ones (List.sublist_append_left _ _)) e2
      rcases w with ⟨w, _⟩ | ⟨_, z⟩
      · obtain ⟨vs, sq, _⟩ := w α2 H1 _ .refl g2 xs ex
        exact ⟨ad, vs, rfl, sq, q α2 H1 _ s2 g2 (walk_enum w)⟩
      · rw [k] at z
        cases z
    | true =>
      refine .inr ⟨env, α, h, [v], h1, g, er, arg1_eq e1, fun α1 H1 us L p1 => ?_⟩
      obtain ⟨u, ws, M, N, rfl, rfl, r1, r2⟩ := p1.rel.uncons
      cases r2
      obtain ⟨α2, ad, rfl, s2, g2, _, ⟨xs, ex⟩, w⟩ := srcOf_ok (p1.to r1.ones (List.sublist_append_left _ _)) e2
      rcases w with ⟨_, z⟩ | ⟨w, _⟩
      · rw [k] at z
        cases z
      · obtain ⟨vs, sq, _⟩ := w α2 H1 _ .refl g2 xs ex
        exact ⟨ad, vs, rfl, sq, q α2 H1 _ s2 g2 (walk_enumT w)⟩
end
end Pe
/-! Pe: comprehensions and statements. -/
namespace Pe
open PySem PySem.Spec PyProof.Rows L2 RZ

section
variable {K : PySem.W.Frag} {B : List Nat} {α0 α α' α1 : List Addr} {H0 H H' H1 : Hp} {h h' h1 : Hs} {ys : List PV} {z : PV} {w : V} {L M : List Addr} {d : Addr} {o : HO}
theorem Step.upd_new (s : Step α0 H0 α' H') (n : H0 d = none) : Step α0 H0 α' (upd H' d o) :=
  ⟨s.pre, fun b u e nb => by rw [upd_ne (ne_of_none e n)]; exact s.keep b u e nb, fun b u e => by
    obtain ⟨u', e'⟩ := s.there b u e
    exact ⟨u', by rw [upd_ne (ne_of_none e n)]; exact e'⟩⟩
theorem Step.of_kept (k : Kept (fun _ => False) H H') : Step α H α H' := ⟨⟨[], by simp, fun _ z => absurd z List.not_mem_nil⟩, fun b u e _ => k.keep b u e fun z => z, fun b u e => ⟨u, k.keep b u e fun z => z⟩⟩
theorem Good.side (g : Good K B α h H) (k : Kept (· = d) H H') (nd : d ∉ α) : Good K B α h H' where
  len := g.len
  nd := g.nd
  wf := g.wf
  cell := fun n xs a e1 e2 => by
    obtain ⟨vs, e, z, r⟩ := g.cell n xs a e1 e2
    refine ⟨vs, k.keep _ _ e fun q => nd ?_, z, PRs.keep k (fun _ _ e => e) _ _ _ r fun _ q => absurd q List.not_mem_nil⟩
    rw [← q]
    exact List.mem_of_getElem? e2
/-- the list at d grows by one item -/
theorem Psts.grow {acc : List V} (p : Psts K B α0 H0 α H h [.tl ys, z] [.ref d, w] ((d :: L) ++ M)) (r : PRs K α H ys acc L) (rz : PR K α H z w M) (ed : H d = some (.lst acc)) (hz : ys.length < sizeLine) :
    Psts K B α0 H0 α (upd H d (.lst (acc ++ [w]))) h [.tl (ys ++ [z])] [.ref d] (d :: (L ++ M)) := by
  have hd : d ∈ (d :: L) ++ M := List.mem_append_left _ List.mem_cons_self
  have nd := p.nd
  rw [List.cons_append, List.nodup_cons] at nd
  have k : Kept (· = d) H (upd H d (.lst (acc ++ [w]))) := ⟨fun b hb => by rw [hb]; exact ⟨_, ed, trivial⟩, fun b u e hb => by rw [upd_ne hb]; exact e⟩
  have ix : ∀ (n : Nat) a, α[n]? = some a → α[n]? = some a := fun _ _ e => e
  have r1 := PRs.keep k ix _ _ _ r fun a ha q => nd.1 (by rw [← q]; exact List.mem_append_left _ ha)
  have r2 := PR.keep k ix _ _ _ rz fun a ha q => nd.1 (by rw [← q]; exact List.mem_append_right _ ha)
  refine ⟨p.step.upd_new (p.fr d hd), p.good.side k (p.out d hd), ?_, ?_, fun a ha => p.out a ha, fun a ha => p.fr a ha⟩
  · exact (PR.tl upd_same (by rw [List.length_append]; exact hz) (r1.append r2.ones)).ones
  · exact p.nd
theorem wipe_eq : ∀ {vs : List Nat} {σ σ' : L2.St}, σ'.length = σ.length → (∀ i, i ∉ vs → σ'[i]? = σ[i]?) → L2.wipe σ' vs = L2.wipe σ vs := by
  have get : ∀ (vs : List Nat) (σ : L2.St) (i : Nat), (L2.wipe σ vs)[i]? = if i ∈ vs then (if i < σ.length then some none else none) else σ[i]? := by
    intro vs
    induction vs with
    | nil => intro σ i; rw [if_neg List.not_mem_nil]; rfl
    | cons v vs ih =>
      intro σ i
      unfold L2.wipe
      by_cases hv : v = i
      · subst hv
        rw [if_pos List.mem_cons_self]
        by_cases hl : v < σ.length
        · rw [if_pos hl, List.getElem?_set_self (by rw [L2.wipe_length]; exact hl)]
        · rw [if_neg hl, List.getElem?_eq_none (by rw [List.length_set, L2.wipe_length]; omega)]
      · rw [List.getElem?_set_ne hv, ih σ i]
        by_cases hm : i ∈ vs
        · rw [if_pos hm, if_pos (List.mem_cons_of_mem _ hm)]
        · rw [if_neg hm, if_neg]
          intro z
          rcases List.mem_cons.mp z with z | z
          · exact hv z.symm
          · exact hm z
  intro vs σ σ' hl hs
  refine List.ext_getElem? fun i => ?_
  rw [get, get, hl]
  by_cases hm : i ∈ vs
  · rw [if_pos hm, if_pos hm]
  · rw [if_neg hm, if_neg hm]
    exact hs i hm
theorem wipe_wipe {vs : List Nat} {σ : L2.St} : L2.wipe (L2.wipe σ vs) vs = L2.wipe σ vs := by
  refine wipe_eq (L2.wipe_length _ _) fun i hi => L2.wipe_out hi
end

/-! ### comprehensions -/
def tests (hc : Bool) (mc : Env → M PV) : Env → M Bool := fun env => if hc then M.bnd (mc env) boolV else M.ret true
def mItem (t : T) (own : List Nat) (mt : Env → M Bool) (me : Env → M PV) (env : Env) : PV → M (Option PV) := fun x => M.bnd (bindT t x (wipeE env own)) fun env1 => M.bnd (mt env1) fun k => if k then M.bnd (me env1) fun y => M.ret (some y) else M.ret none
def mComp (mi : Env → M ItV) (t : T) (own : List Nat) (mt : Env → M Bool) (me : Env → M PV) : Env → M PV := fun env => M.bnd (mi env) fun iv => fun h => match cloop (mItem t own mt me env) iv (iv.fuel h) 0 [] h with
  | some (ys, h1) => some (.tl ys, h1)
  | none => none
theorem pts_yes {X : Cx} {K : PySem.W.Frag} {B : List Nat} {mc : Env → M PV} : PTs X [] (tMB K B (tests false mc)) := ⟨fun pins s σ H Q I ⟨env, α, h, k, h', g, er, e, q⟩ => by
  obtain ⟨rfl, rfl⟩ := ret_some (show M.ret true h = some (k, h') from e)
  exact pts_nil.run pins s σ H Q I (q α H .refl g)⟩
theorem pts_if {X : Cx} {K : PySem.W.Frag} {B : List Nat} {c : Expr} {mc : Env → M PV} (hc : PT X c (tMB K B (mB mc))) : PTs X [c] (tMB K B (tests true mc)) := pts_one hc
section
variable {X : Cx} {B : List Nat} {elt tg iter : Expr} {ifs : List Expr} {scope : Scope} {own : List (Str × Nat)} {pos : Pos} {mi : Env → M ItV} {t : T} {mt : Env → M Bool} {me : Env → M PV}
theorem comp_read {σ : L2.St} {H : Hp} {Q : VK} (hsl : ∀ i ∈ t.slots, i ∈ own.map (·.2)) (tt : tM X.K B (mComp mi t (own.map (·.2)) mt me) σ H Q) : tLc (tIt X.K B mi) (tT X.K B t) (tMB X.K B mt) (tM X.K B me) (own.map (·.2)) σ H Q := by
  obtain ⟨env, α, h, z, h', g, er, e, q⟩ := tt
  obtain ⟨iv, h1, e1, e⟩ := bnd_some e
  refine ⟨env, α, h, iv, h1, g, er, e1, fun α1 H1 J s1 g1 wk D nD => ?_⟩
  cases ec : cloop (mItem t (own.map (·.2)) mt me env) iv (iv.fuel h1) 0 [] h1 with
  | none =>
    rw [ec] at e
    cases e
  | some r =>
  obtain ⟨zs, hf⟩ := r
  rw [ec] at e
  cases e
  refine ⟨fun i m H' => ∃ αi hi ys L, Psts X.K B α H αi H' hi [.tl ys] [.ref D] (D :: L) ∧ Step α1 H1 αi H' ∧ cloop (mItem t (own.map (·.2)) mt me env) iv m i ys hi = some (zs, h'), ⟨iv.fuel h1, α1, h1, [], [], ?_, Step.fresh nD, ec⟩, ?_⟩
  · have p0 : Psts X.K B α H α1 H1 h1 [] [] [] := ⟨s1, g1, .nil, List.nodup_nil, fun _ z => absurd z List.not_mem_nil, fun _ z => absurd z List.not_mem_nil⟩
    exact p0.newList nD .nil (List.Sublist.refl _) (Nat.zero_le _)
  · rintro i m H' ⟨αi, hi, ys, L, P, S, ce⟩
    have wi := wk αi H' hi S P.good i
    have stop : iv.at hi i = some none → zs = ys → h' = hi → J.stop i H' ∧ Q (.ref D) H' := fun ea e1 e2 => by
      subst e1 e2
      exact ⟨wi.1 ea, q _ _ _ _ P⟩
    cases m with
    | zero =>
      unfold cloop at ce
      split at ce
      · rename_i ea
        cases ce
        exact .inl (stop ea rfl rfl)
      · cases ce
    | succ m =>
      unfold cloop at ce
      split at ce
      · rename_i ea
        cases ce
        exact .inl (stop ea rfl rfl)
      · rename_i x ea
        refine .inr ⟨(wi.2 x ea).1, fun H'' => ∃ αi hi ys L, Psts X.K B α H αi H'' hi [.tl ys] [.ref D] (D :: L) ∧ Step α1 H1 αi H'' ∧ cloop (mItem t (own.map (·.2)) mt me env) iv m (i + 1) ys hi = some (zs, h'), fun H'' n => ⟨m, Nat.lt_succ_self m, n⟩, fun v H2 yl => ?_⟩
        obtain ⟨kp, rx⟩ := (wi.2 x ea).2 v H2 yl
        have st2 : Step αi H' αi H2 := Step.of_kept kp
        have g2 := P.good.mono kp
        have P2 := P.later st2 g2
        have S2 := S.trans st2
        split at ce
        · -- an item
          rename_i y h3 eo
          obtain ⟨env1, h2, eb, eo⟩ := bnd_some eo
          obtain ⟨k, h4, et, eo⟩ := bnd_some eo
          cases k with
          | false => cases eo
          | true =>
            obtain ⟨y', h5, ey, eo⟩ := bnd_some eo
            obtain ⟨en, rfl⟩ := ret_some eo
            cases en
            split at ce
            · rename_i hz
              have er2 : EnvR X.K αi H2 (wipeE env (own.map (·.2))) (L2.wipe σ (own.map (·.2))) := (er.later g P2.step).wipe _
              refine ⟨αi, H2, αi, hi, _, x, [], env1, h2, ⟨.refl, g2, rx.ones, List.nodup_nil, fun _ z => absurd z List.not_mem_nil, fun _ z => absurd z List.not_mem_nil⟩, er2, eb, fun α3 σ3 s3 g3 er3 sb3 _ => ?_⟩
              refine ⟨(wipe_eq sb3.1 fun i hi => sb3.2 i fun z => hi (hsl i z)).trans wipe_wipe, env1, α3, h2, true, h4, g3, er3, et, fun α4 H4 s4 g4 => iteT ?_⟩
              refine ⟨env1, α4, h4, y, h3, g4, er3.later g3 s4, ey, fun α5 H5 w M p5 => ?_⟩
              have P3 := (P2.later (s3.trans s4) g4).app p5
              obtain ⟨u1, u2, L1, L2, eu, eL, r1, r2⟩ := P3.rel.two
              cases eu
              have r1' := (P2.later (s3.trans s4) g4).later p5.step p5.good
              have r1'' := r1'.one
              cases r1'' with
              | tl hD zD rD =>
                refine ⟨_, hD, by rw [← rD.length]; exact hz, α5, h3, ys ++ [y], L ++ M, P3.grow rD p5.one hD hz, ?_, ce⟩
                exact (((S2.trans s3).trans s4).trans p5.step).upd_new nD
            · cases ce
        · -- left out
          rename_i h3 eo
          obtain ⟨env1, h2, eb, eo⟩ := bnd_some eo
          obtain ⟨k, h4, et, eo⟩ := bnd_some eo
          cases k with
          | true =>
            obtain ⟨y', h5, ey, eo⟩ := bnd_some eo
            obtain ⟨en, _⟩ := ret_some eo
            cases en
          | false =>
            obtain ⟨_, rfl⟩ := ret_some eo
            have er2 : EnvR X.K αi H2 (wipeE env (own.map (·.2))) (L2.wipe σ (own.map (·.2))) := (er.later g P2.step).wipe _
            refine ⟨αi, H2, αi, hi, _, x, [], env1, h2, ⟨.refl, g2, rx.ones, List.nodup_nil, fun _ z => absurd z List.not_mem_nil, fun _ z => absurd z List.not_mem_nil⟩, er2, eb, fun α3 σ3 s3 g3 er3 sb3 _ => ?_⟩
            refine ⟨(wipe_eq sb3.1 fun i hi => sb3.2 i fun z => hi (hsl i z)).trans wipe_wipe, env1, α3, h2, false, h3, g3, er3, et, fun α4 H4 s4 g4 => iteF ?_⟩
            exact ⟨α4, h3, ys, L, P2.later (s3.trans s4) g4, (S2.trans s3).trans s4, ce⟩
        · cases ce
      · cases ce
theorem e_comp (hc : X.calm = true) (hN : X.N.Nodup) (hi : PI X tg iter (tIt X.K B mi)) (ok : BlkOk X.N X.env.scope scope own) (hsl : ∀ i ∈ t.slots, i ∈ own.map (·.2))
    (hg : ∀ (s : Shared) (H : Hp) (C : Addr) (cl : List (Str × Addr)) (fp : List Addr), PG (X.blk s H scope (compEnvC scope cl C X.env) fp) tg (tT X.K B t)) (ht : ∀ (s : Shared) (H : Hp) (C : Addr) (cl : List (Str × Addr)) (fp : List Addr), PTs (X.blk s H scope (compEnvC scope cl C X.env) fp) ifs (tMB X.K B mt))
    (he : ∀ (s : Shared) (H : Hp) (C : Addr) (cl : List (Str × Addr)) (fp : List Addr), PE (X.blk s H scope (compEnvC scope cl C X.env) fp) elt (tM X.K B me)) (hs : ∀ x, foldedSetIterable iter X.env x = pure x) :
    PE X (.ListComp elt [⟨tg, iter, ifs, 0⟩] scope pos) (tM X.K B (mComp mi t (own.map (·.2)) mt me)) :=
  peI (pe_lc hc hN hi ok hg ht he hs) fun σ H Q tt => comp_read hsl tt
end

/-! ### dict comprehensions -/
def mPair (t : T) (own : List Nat) (mt : Env → M Bool) (mk mv : Env → M PV) (env : Env) : PV → M (Option (Sum Int Str × D)) := fun x => M.bnd (bindT t x (wipeE env own)) fun env1 => M.bnd (mt env1) fun b => if b then M.bnd (mk env1) fun y => M.bnd (mv env1) fun z => pairM y z else M.ret none
def mDcomp (mi : Env → M ItV) (t : T) (own : List Nat) (mt : Env → M Bool) (mk mv : Env → M PV) : Env → M PV := fun env => M.bnd (mi env) fun iv => fun h => match dloop (mPair t own mt mk mv env) iv (iv.fuel h) 0 [] h with
  | some (es, h1) => some (.fd es, h1)
  | none => none
theorem pairM_some {x y : PV} {h h' : Hs} {r : Option (Sum Int Str × D)} (e : pairM x y h = some (r, h')) : ∃ d k v, x = .d d ∧ keyD d = some k ∧ y = .d v ∧ r = some (k, v) ∧ h' = h := by
  cases x with
  | d d => cases y with
    | d v =>
      have e' : (match keyD d with
        | some k => M.ret (some (k, v))
        | none => M.no) h = some (r, h') := e
      cases ek : keyD d with
      | none => rw [ek] at e'; cases e'
      | some k =>
        rw [ek] at e'
        obtain ⟨rfl, rfl⟩ := ret_some e'
        exact ⟨d, k, v, rfl, ek, rfl, rfl, rfl⟩
    | _ => cases e
  | _ => cases e
theorem FDs.put {K : PySem.W.Frag} {H : Hp} {k : Key} {x : D} {v : V} (hv : DR K H x v) : ∀ {es : List (Sum Int Str × D)} {kvs : List (Key × V)}, FDs K H es kvs → FDs K H (putD es k x) (putK kvs k v) := by
  intro es kvs r
  have e1 : hasK es k = kvs.any fun kv => decide (kv.1 = k) := by
    rw [r.val, valV_any]
  unfold putD putK
  rw [e1]
  split
  · rename_i hc
    clear e1 hc
    induction r with
    | nil => exact .nil
    | @cons k' x' v' xs vs h t ih =>
      rw [List.map_cons, List.map_cons]
      dsimp only
      by_cases e : k' = k
      · rw [if_pos e, if_pos e]
        exact .cons hv ih
      · rw [if_neg e, if_neg e]
        exact .cons h ih
  · rename_i hc
    clear e1 hc
    induction r with
    | nil => exact .cons hv .nil
    | cons h t ih => exact .cons h ih
theorem FDs.length {K : PySem.W.Frag} {H : Hp} {es : List (Sum Int Str × D)} {kvs : List (Key × V)} (r : FDs K H es kvs) : es.length = kvs.length := by
  induction r with
  | nil => rfl
  | cons _ _ ih => rw [List.length_cons, List.length_cons, ih]
section
variable {X : Cx} {B : List Nat} {kx vx elt tg iter : Expr} {ifs : List Expr} {scope : Scope} {own : List (Str × Nat)} {pos : Pos} {mi : Env → M ItV} {t : T} {mt : Env → M Bool} {me mk mv : Env → M PV}
/-- a thing that nobody knows yet is changed -/
theorem Psts.side {K : PySem.W.Frag} {α0 α : List Addr} {H0 H : Hp} {h : Hs} {D : Addr} {kvs : List (Key × V)} {u : HO} (p : Psts K B α0 H0 α H h [] [] []) (hD : H D = some (.dK kvs)) (nD : D ∉ α) (n0 : H0 D = none) : Psts K B α0 H0 α (upd H D u) h [] [] [] := by
  have k : Kept (· = D) H (upd H D u) := ⟨fun b hb => by subst hb; exact ⟨_, hD, trivial⟩, fun b o q hb => by rw [upd_ne hb]; exact q⟩
  exact ⟨p.step.upd_new n0, p.good.side k nD, .nil, List.nodup_nil, fun _ z => absurd z List.not_mem_nil, fun _ z => absurd z List.not_mem_nil⟩
def dkQ (Q : VK) : VK := fun v H => ∃ D kvs, v = .ref D ∧ H D = some (.dK kvs) ∧ ∀ o, Q v (upd H D (.frz o (.dK kvs)))
theorem pe_lock {e : Expr} {t : TE} (p : PE X e t) : PE X e (fun σ H Q => t σ H (dkQ Q)) := ⟨fun pins s σ H Q I h => thn (p.run pins s σ H _ I h) fun u s1 ⟨v, H1, I1, r1, D, kvs, e, hD, q⟩ => by
  obtain ⟨o, I2⟩ := I1.lock hD trivial
  exact ⟨v, _, I2, r1, q o⟩⟩
theorem dcomp_read {σ : L2.St} {H : Hp} {Q : VK} (hsl : ∀ i ∈ t.slots, i ∈ own.map (·.2)) (tt : tM X.K B (mDcomp mi t (own.map (·.2)) mt mk mv) σ H Q) : tDc (tIt X.K B mi) (tT X.K B t) (tMB X.K B mt) (tM X.K B mk) (tM X.K B mv) (own.map (·.2)) σ H (dkQ Q) := by
  obtain ⟨env, α, h, z, h', g, er, e, q⟩ := tt
  obtain ⟨iv, h1, e1, e⟩ := bnd_some e
  refine ⟨env, α, h, iv, h1, g, er, e1, fun α1 H1 J s1 g1 wk D nD => ?_⟩
  cases ec : dloop (mPair t (own.map (·.2)) mt mk mv env) iv (iv.fuel h1) 0 [] h1 with
  | none =>
    rw [ec] at e
    cases e
  | some r =>
  obtain ⟨zs, hf⟩ := r
  rw [ec] at e
  cases e
  have n0 : H D = none := s1.none_back nD
  refine ⟨fun i m H' => ∃ αi hi es kvs, Psts X.K B α H αi H' hi [] [] [] ∧ H' D = some (.dK kvs) ∧ FDs X.K H' es kvs ∧ D ∉ αi ∧ Step α1 H1 αi H' ∧ dloop (mPair t (own.map (·.2)) mt mk mv env) iv m i es hi = some (zs, h'), ⟨iv.fuel h1, α1, h1, [], [], ?_, upd_same, .nil, ?_, Step.fresh nD, ec⟩, ?_⟩
  · have p0 : Psts X.K B α H α1 H1 h1 [] [] [] := ⟨s1, g1, .nil, List.nodup_nil, fun _ z => absurd z List.not_mem_nil, fun _ z => absurd z List.not_mem_nil⟩
    exact p0.fresh nD
  · intro z
    obtain ⟨_, _, us, _, _, e⟩ := g1.of_addr z
    rw [nD] at e
    cases e
  · rintro i m H' ⟨αi, hi, es, kvs, P, hD, rr, oD, S, ce⟩
    have wi := wk αi H' hi S P.good i
    have stop : iv.at hi i = some none → zs = es → h' = hi → J.stop i H' ∧ dkQ Q (.ref D) H' := fun ea e1 e2 => by
      subst e1 e2
      refine ⟨wi.1 ea, D, kvs, rfl, hD, fun o => ?_⟩
      have P2 := P.side (u := .frz o (.dK kvs)) hD oD n0
      have k : Kept (· = D) H' (upd H' D (.frz o (.dK kvs))) := ⟨fun b hb => by subst hb; exact ⟨_, hD, trivial⟩, fun b o q hb => by rw [upd_ne hb]; exact q⟩
      exact q _ _ _ _ (P2.to (PR.fd upd_same (rr.keep k)).ones (List.nil_sublist _))
    cases m with
    | zero =>
      unfold dloop at ce
      split at ce
      · rename_i ea
        cases ce
        exact .inl (stop ea rfl rfl)
      · cases ce
    | succ m =>
      unfold dloop at ce
      split at ce
      · rename_i ea
        cases ce
        exact .inl (stop ea rfl rfl)
      · rename_i x ea
        refine .inr ⟨(wi.2 x ea).1, fun H'' => ∃ αi hi es kvs, Psts X.K B α H αi H'' hi [] [] [] ∧ H'' D = some (.dK kvs) ∧ FDs X.K H'' es kvs ∧ D ∉ αi ∧ Step α1 H1 αi H'' ∧ dloop (mPair t (own.map (·.2)) mt mk mv env) iv m (i + 1) es hi = some (zs, h'), fun H'' n => ⟨m, Nat.lt_succ_self m, n⟩, fun v H2 yl => ?_⟩
        obtain ⟨kp, rx⟩ := (wi.2 x ea).2 v H2 yl
        have st2 : Step αi H' αi H2 := Step.of_kept kp
        have g2 := P.good.mono kp
        have P2 := P.later st2 g2
        have S2 := S.trans st2
        have hD2 : H2 D = some (.dK kvs) := kp.keep _ _ hD fun z => z
        have rr2 : FDs X.K H2 es kvs := rr.keep kp
        split at ce
        · -- an item
          rename_i y h3 eo
          obtain ⟨env1, h2, eb, eo⟩ := bnd_some eo
          obtain ⟨b, h4, et, eo⟩ := bnd_some eo
          cases b with
          | false => cases eo
          | true =>
            obtain ⟨y1, h5, ey, eo⟩ := bnd_some eo
            obtain ⟨y2, h6, ev, eo⟩ := bnd_some eo
            obtain ⟨d, k, vd, rfl, ek, rfl, en, rfl⟩ := pairM_some eo
            cases en
            split at ce
            · rename_i hz
              have er2 : EnvR X.K αi H2 (wipeE env (own.map (·.2))) (L2.wipe σ (own.map (·.2))) := (er.later g P2.step).wipe _
              refine ⟨αi, H2, αi, hi, _, x, [], env1, h2, ⟨.refl, g2, rx.ones, List.nodup_nil, fun _ z => absurd z List.not_mem_nil, fun _ z => absurd z List.not_mem_nil⟩, er2, eb, fun α3 σ3 s3 g3 er3 sb3 _ => ?_⟩
              refine ⟨(wipe_eq sb3.1 fun i hi => sb3.2 i fun z => hi (hsl i z)).trans wipe_wipe, env1, α3, h2, true, h4, g3, er3, et, fun α4 H4 s4 g4 => iteT ?_⟩
              refine ⟨env1, α4, h4, _, h5, g4, er3.later g3 s4, ey, fun α5 H5 w M p5 => ?_⟩
              have ew := keyD_rel ek p5.one
              subst ew
              have s34 := s3.trans s4
              refine ⟨env1, α5, h5, _, _, p5.good, (er3.later g3 s4).later g4 p5.step, ev, fun α6 H6 w2 M2 p6 => ?_⟩
              have sx := (s34.trans p5.step).trans p6.step
              have hD6 : H6 D = some (.dK kvs) := sx.keep _ _ hD2 oD
              have oD6 : D ∉ α6 := sx.out oD hD2
              have rr6 : FDs X.K H6 es kvs := rr2.keep (g2.kept sx)
              have r6 := p6.one
              cases r6 with
              | d hdr =>
                have P6 : Psts X.K B α H α6 H6 _ [] [] [] := P2.later sx p6.good
                have kD : Kept (· = D) H6 (upd H6 D (.dK (putK kvs k w2))) := ⟨fun b hb => by subst hb; exact ⟨_, hD6, trivial⟩, fun b o q hb => by rw [upd_ne hb]; exact q⟩
                exact ⟨kvs, k, rfl, hD6, by rw [← rr6.length]; exact hz, α6, _, putD es k vd, putK kvs k w2, P6.side hD6 oD6 n0, upd_same, (FDs.put hdr rr6).keep kD, oD6, (S2.trans sx).upd_new nD, ce⟩
            · cases ce
        · -- left out
          rename_i h3 eo
          obtain ⟨env1, h2, eb, eo⟩ := bnd_some eo
          obtain ⟨b, h4, et, eo⟩ := bnd_some eo
          cases b with
          | true =>
            obtain ⟨y1, h5, ey, eo⟩ := bnd_some eo
            obtain ⟨y2, h6, ev, eo⟩ := bnd_some eo
            obtain ⟨d, k, vd, rfl, ek, rfl, en, rfl⟩ := pairM_some eo
            cases en
          | false =>
            obtain ⟨_, rfl⟩ := ret_some eo
            have er2 : EnvR X.K αi H2 (wipeE env (own.map (·.2))) (L2.wipe σ (own.map (·.2))) := (er.later g P2.step).wipe _
            refine ⟨αi, H2, αi, hi, _, x, [], env1, h2, ⟨.refl, g2, rx.ones, List.nodup_nil, fun _ z => absurd z List.not_mem_nil, fun _ z => absurd z List.not_mem_nil⟩, er2, eb, fun α3 σ3 s3 g3 er3 sb3 _ => ?_⟩
            refine ⟨(wipe_eq sb3.1 fun i hi => sb3.2 i fun z => hi (hsl i z)).trans wipe_wipe, env1, α3, h2, false, h3, g3, er3, et, fun α4 H4 s4 g4 => iteF ?_⟩
            have sx := s3.trans s4
            exact ⟨α4, h3, es, kvs, P2.later sx g4, sx.keep _ _ hD2 oD, rr2.keep (g2.kept sx), sx.out oD hD2, S2.trans sx, ce⟩
        · cases ce
      · cases ce
theorem e_dcomp (hc : X.calm = true) (hN : X.N.Nodup) (hi : PI X tg iter (tIt X.K B mi)) (ok : BlkOk X.N X.env.scope scope own) (hsl : ∀ i ∈ t.slots, i ∈ own.map (·.2))
    (hg : ∀ (s : Shared) (H : Hp) (C : Addr) (cl : List (Str × Addr)) (fp : List Addr), PG (X.blk s H scope (compEnvC scope cl C X.env) fp) tg (tT X.K B t)) (ht : ∀ (s : Shared) (H : Hp) (C : Addr) (cl : List (Str × Addr)) (fp : List Addr), PTs (X.blk s H scope (compEnvC scope cl C X.env) fp) ifs (tMB X.K B mt))
    (hk : ∀ (s : Shared) (H : Hp) (C : Addr) (cl : List (Str × Addr)) (fp : List Addr), PE (X.blk s H scope (compEnvC scope cl C X.env) fp) kx (tM X.K B mk)) (hv : ∀ (s : Shared) (H : Hp) (C : Addr) (cl : List (Str × Addr)) (fp : List Addr), PE (X.blk s H scope (compEnvC scope cl C X.env) fp) vx (tM X.K B mv)) (hs : ∀ x, foldedSetIterable iter X.env x = pure x) :
    PE X (.DictComp kx vx [⟨tg, iter, ifs, 0⟩] scope pos) (tM X.K B (mDcomp mi t (own.map (·.2)) mt mk mv)) :=
  peI (pe_lock (pe_dc hc hN hi ok hg ht hk hv hs)) fun σ H Q tt => dcomp_read hsl tt
end

/-! ### statements -/
def FlOk (K : PySem.W.Frag) (B : List Nat) (α : List Addr) (H : Hp) (f : Fl) (h : Hs) (D : Ends) : Prop := match f with
  | .nx e => ∀ α' H' σ', Step α H α' H' → Good K B α' h H' → EnvR K α' H' e σ' → D.nx σ' H'
  | .bk e => ∀ α' H' σ', Step α H α' H' → Good K B α' h H' → EnvR K α' H' e σ' → D.bk σ' H'
  | .ct e => ∀ α' H' σ', Step α H α' H' → Good K B α' h H' → EnvR K α' H' e σ' → D.ct σ' H'
  | .rt z => ∀ α' H' v L, Psts K B α H α' H' h [z] [v] L → D.rt v H'
def tS (K : PySem.W.Frag) (B : List Nat) (m : Env → M Fl) : TS := fun D σ H => ∃ env α h f h', Good K B α h H ∧ EnvR K α H env σ ∧ m env h = some (f, h') ∧ FlOk K B α H f h' D
theorem Psts.base {K : PySem.W.Frag} {B : List Nat} {α0 α1 α : List Addr} {H0 H1 H : Hp} {h : Hs} {zs : List PV} {vs : List V} {L : List Addr} (s : Step α0 H0 α1 H1) (p : Psts K B α1 H1 α H h zs vs L) : Psts K B α0 H0 α H h zs vs L :=
  ⟨s.trans p.step, p.good, p.rel, p.nd, p.out, fun a ha => s.none_back (p.fr a ha)⟩
theorem FlOk.later {K : PySem.W.Frag} {B : List Nat} {α α1 : List Addr} {H H1 : Hp} {f : Fl} {h : Hs} {D : Ends} (k : FlOk K B α H f h D) (s : Step α H α1 H1) : FlOk K B α1 H1 f h D := by
  cases f with
  | nx e => exact fun α' H' σ' s' g er => k α' H' σ' (s.trans s') g er
  | bk e => exact fun α' H' σ' s' g er => k α' H' σ' (s.trans s') g er
  | ct e => exact fun α' H' σ' s' g er => k α' H' σ' (s.trans s') g er
  | rt z => exact fun α' H' v L p => k α' H' v L (p.base s)
section
variable {X : Cx} {K : PySem.W.Frag} {B : List Nat} {fb : Nat} {st : Stmt} {sts sts2 : List Stmt} {ms ms2 : Env → M Fl} {a b c tg iter : Expr} {ma mb mc : Env → M PV} {pos : Pos} {t : T} {mi : Env → M ItV}
theorem s_nil : PSs X [] (tS K B fun env => M.ret (.nx env)) := pssI pss_nil fun D σ H ⟨env, α, h, f, h', g, er, e, k⟩ => by
  obtain ⟨rfl, rfl⟩ := ret_some e
  exact k α H σ .refl g er
def mThen (m m2 : Env → M Fl) : Env → M Fl := fun env => M.bnd (m env) fun f => match f with
  | .nx e => m2 e
  | f => M.ret f
theorem s_cons (h1 : PS X st (tS K B ms)) (h2 : PSs X sts (tS K B ms2)) : PSs X (st :: sts) (tS K B (mThen ms ms2)) :=
  pssI (pss_cons h1 h2) fun D σ H ⟨env, α, h, f, h', g, er, e, k⟩ => by
    obtain ⟨f1, h1, e1, e2⟩ := bnd_some e
    refine ⟨env, α, h, f1, h1, g, er, e1, ?_⟩
    cases f1 with
    | nx e => exact fun α' H' σ' s' g' er' => ⟨e, α', h1, f, h', g', er', e2, k.later s'⟩
    | bk e =>
      obtain ⟨rfl, rfl⟩ := ret_some e2
      exact k
    | ct e =>
      obtain ⟨rfl, rfl⟩ := ret_some e2
      exact k
    | rt z =>
      obtain ⟨rfl, rfl⟩ := ret_some e2
      exact k
theorem s_pass : PS X (.Pass pos) (tS K B fun env => M.ret (.nx env)) := psI ps_pass fun D σ H ⟨env, α, h, f, h', g, er, e, k⟩ => by
  obtain ⟨rfl, rfl⟩ := ret_some e
  exact k α H σ .refl g er
theorem s_break : PS X (.Break pos) (tS K B fun env => M.ret (.bk env)) := psI ps_break fun D σ H ⟨env, α, h, f, h', g, er, e, k⟩ => by
  obtain ⟨rfl, rfl⟩ := ret_some e
  exact k α H σ .refl g er
theorem s_cont : PS X (.Continue pos) (tS K B fun env => M.ret (.ct env)) := psI ps_continue fun D σ H ⟨env, α, h, f, h', g, er, e, k⟩ => by
  obtain ⟨rfl, rfl⟩ := ret_some e
  exact k α H σ .refl g er
theorem s_ex (ha : PE X a (tM K B ma)) (hs : swapsWith a none pos.line X.env = pure false) : PS X (.Expr a pos) (tS K B fun env => M.bnd (ma env) fun _ => M.ret (.nx env)) :=
  psI (ps_expr ha hs) fun D σ H ⟨env, α, h, f, h', g, er, e, k⟩ => by
    obtain ⟨v, h1, e1, e2⟩ := bnd_some e
    obtain ⟨rfl, rfl⟩ := ret_some e2
    exact ⟨env, α, h, v, _, g, er, e1, fun α1 H1 u L p => k α1 H1 σ p.step p.good (er.later g p.step)⟩
theorem s_ret (ha : PE X a (tM K B ma)) : PS X (.Return (some a) pos) (tS K B fun env => M.bnd (ma env) fun v => M.ret (.rt v)) :=
  psI (ps_ret ha) fun D σ H ⟨env, α, h, f, h', g, er, e, k⟩ => by
    obtain ⟨v, h1, e1, e2⟩ := bnd_some e
    obtain ⟨rfl, rfl⟩ := ret_some e2
    exact ⟨env, α, h, v, _, g, er, e1, k⟩
theorem s_retn : PS X (.Return none pos) (tS K B fun _ => M.ret (.rt (.d .non))) := psI ps_retN fun D σ H ⟨env, α, h, f, h', g, er, e, k⟩ => by
  obtain ⟨rfl, rfl⟩ := ret_some e
  exact k _ _ _ _ ((Psts.nil g).dat .non)
theorem s_if (hc : PT X c (tMB K B (mB mc))) (h1 : PSs X sts (tS K B ms)) (h2 : PSs X sts2 (tS K B ms2)) : PS X (.If c sts sts2 pos) (tS K B fun env => M.bnd (mc env) fun x => M.bnd (boolV x) fun k => if k then ms env else ms2 env) :=
  psI (ps_if hc h1 h2) fun D σ H ⟨env, α, h, f, h', g, er, e, k⟩ => by
    obtain ⟨x, h1, e1, e⟩ := bnd_some e
    obtain ⟨b, h2, e2, e3⟩ := bnd_some e
    refine ⟨env, α, h, b, h2, g, er, by show M.bnd (mc env) boolV h = _; unfold M.bnd; rw [e1]; exact e2, fun α1 H1 s1 g1 => ?_⟩
    cases b with
    | true => exact iteT ⟨env, α1, h2, f, h', g1, er.later g s1, e3, k.later s1⟩
    | false => exact iteF ⟨env, α1, h2, f, h', g1, er.later g s1, e3, k.later s1⟩
def mAsg (ma : Env → M PV) (t : T) : Env → M Fl := fun env => M.bnd (ma env) fun v => M.bnd (bindT t v env) fun env' => M.ret (.nx env')
theorem asg_read {D : Ends} {σ : L2.St} {H : Hp} (x : tS K B (mAsg ma t) D σ H) : tAsg (tM K B ma) (tT K B t) D σ H := by
  obtain ⟨env, α, h, f, h', g, er, e, k⟩ := x
  obtain ⟨v, h1, e1, e⟩ := bnd_some e
  obtain ⟨env', h2, e2, e3⟩ := bnd_some e
  obtain ⟨rfl, rfl⟩ := ret_some e3
  exact ⟨env, α, h, v, h1, g, er, e1, fun α1 H1 u L p => ⟨α, H, α1, h1, env, v, L, env', _, p, er.later g p.step, e2, fun α' σ' s' g' er' _ _ => k α' H1 σ' s' g' er'⟩⟩
theorem s_asg (ha : PE X a (tM K B ma)) (hg : PG X tg (tT K B t)) (hs : swapsWithSole [tg] a pos.line X.env = pure false) (hw : swappedStores [tg] a X.env = pure none) (h1 : (assignEach [tg] X.env).map (·.2) = [assign tg X.env]) : PS X (.Assign [tg] a pos) (tS K B (mAsg ma t)) :=
  psI (ps_asg ha hg hs hw h1) fun D σ H x => asg_read x
theorem s_setC {i : Nat} {y : Str} {py : Pos} {elt : Expr} {ifs : List Expr} {scope : Scope} {own : List (Str × Nat)} {mt : Env → M Bool} {me : Env → M PV} {spos : Pos} (hc : X.calm = true) (hN : X.N.Nodup) (hy : X.N[i]? = some y) (hyl : X.env.scope.names.lookup y = some .local)
    (hsw : swapsWith (.ListComp elt [⟨tg, iter, ifs, 0⟩] scope pos) (some (.Name y py)) spos.line X.env = pure true) (hi : PI X tg iter (tIt X.K B mi)) (ok : BlkOk X.N X.env.scope scope own) (hsl : ∀ i ∈ t.slots, i ∈ own.map (·.2))
    (hg : ∀ (s : Shared) (H : Hp) (C : Addr) (cl : List (Str × Addr)) (fp : List Addr), PG (X.blk s H scope (compEnvC scope cl C X.env) fp) tg (tT X.K B t)) (ht : ∀ (s : Shared) (H : Hp) (C : Addr) (cl : List (Str × Addr)) (fp : List Addr), PTs (X.blk s H scope (compEnvC scope cl C X.env) fp) ifs (tMB X.K B mt))
    (he : ∀ (s : Shared) (H : Hp) (C : Addr) (cl : List (Str × Addr)) (fp : List Addr), PE (X.blk s H scope (compEnvC scope cl C X.env) fp) elt (tM X.K B me)) (hs : ∀ x, foldedSetIterable iter X.env x = pure x) :
    PS X (.Assign [.Name y py] (.ListComp elt [⟨tg, iter, ifs, 0⟩] scope pos) spos) (tS X.K B (mAsg (mComp mi t (own.map (·.2)) mt me) (.nm i))) :=
  psI (ps_setLc hc hN hy hyl hsw hi ok hg ht he hs) fun D σ H x => by
    obtain ⟨env, α, h, f, h', g, er, e, k⟩ := x
    obtain ⟨v, h1, e1, e⟩ := bnd_some e
    obtain ⟨env', h2, e2, e3⟩ := bnd_some e
    obtain ⟨rfl, rfl⟩ := ret_some e3
    refine comp_read hsl ⟨env, α, h, v, h1, g, er, e1, fun α1 H1 u L p => ?_⟩
    unfold bindT at e2
    split at e2
    · cases e2
      obtain ⟨α', p1, hix, _⟩ := p.conv
      exact k α' H1 _ p1.step p1.good (((er.later g p.step).same hix).set p1.one)
    · cases e2
/-- x = {k: v for ..} -/
theorem ps_setDcL {i : Nat} {y : Str} {py : Pos} {kx vx tg iter : Expr} {ifs : List Expr} {scope : Scope} {own : List (Str × Nat)} {pos spos : Pos} {wi : TI} {g : TG} {tt : TT} {tk tv : TE} {X : Cx} (hc : X.calm = true) (hN : X.N.Nodup) (hy : X.N[i]? = some y) (hyl : X.env.scope.names.lookup y = some .local)
    (hsw : swapsWith (.DictComp kx vx [⟨tg, iter, ifs, 0⟩] scope pos) (some (.Name y py)) spos.line X.env = pure true) (hi : PI X tg iter wi) (ok : BlkOk X.N X.env.scope scope own)
    (hg : ∀ (s : Shared) (H : Hp) (C : Addr) (cl : List (Str × Addr)) (fp : List Addr), PG (X.blk s H scope (compEnvC scope cl C X.env) fp) tg g) (ht : ∀ (s : Shared) (H : Hp) (C : Addr) (cl : List (Str × Addr)) (fp : List Addr), PTs (X.blk s H scope (compEnvC scope cl C X.env) fp) ifs tt)
    (hk : ∀ (s : Shared) (H : Hp) (C : Addr) (cl : List (Str × Addr)) (fp : List Addr), PE (X.blk s H scope (compEnvC scope cl C X.env) fp) kx tk) (hv : ∀ (s : Shared) (H : Hp) (C : Addr) (cl : List (Str × Addr)) (fp : List Addr), PE (X.blk s H scope (compEnvC scope cl C X.env) fp) vx tv) (hs : ∀ x, foldedSetIterable iter X.env x = pure x) :
    PS X (.Assign [.Name y py] (.DictComp kx vx [⟨tg, iter, ifs, 0⟩] scope pos) spos) (tAsg (fun σ H Q => tDc wi g tt tk tv (own.map (·.2)) σ H (dkQ Q)) (gName i)) := by
  refine ⟨fun pins s σ H D I h => ?_⟩
  rw [exec_Assign_Name_used _ _ _ _ hsw]
  refine wpAny_bind (wpAny_standAt (wpAny_bind ?_))
  show wpAny _ X.A (do let _ ← comprehension (.DictComp kx vx [⟨tg, iter, ifs, 0⟩] scope pos) scope X.env (firstIterPos [⟨tg, iter, ifs, 0⟩] pos) newDict false (eval iter X.env) (some (assign (.Name y py) X.env))) _ _ s
  have h : tDc wi g tt tk tv (own.map (·.2)) σ H (dkQ fun x H1 => gName i x σ H1 D.nx) := h
  refine wpAny_bind (thn (dc_core (Qf := fun _ s' => SP X pins D .next s') hc hN I hi ok hg ht hk hv hs h fun L C s' m H' I' q hn f => ?_) fun _ s' hq => wpAny_pure (wpAny_pure hq))
  obtain ⟨L', kvs, eL, hD, q⟩ := q
  cases eL
  obtain ⟨o, I2⟩ := I'.lock hD trivial
  have f' : FpOk X pins (upd H' L (.frz o (.dK kvs))) C := by
    obtain ⟨f0, f1, f2, f3, f4, f5⟩ := f
    refine ⟨?_, f1, f2, f3, f4, f5⟩
    rw [upd_ne (fun z => by rw [z, hD] at f0; cases f0)]
    exact f0
  show wpAny _ _ (assign (.Name y py) X.env (.ref L)) _ _ _
  refine wpAny_assign_Name (store_ok2 (v := V.ref L) I2 hN hy (.inl hyl) rfl (fun s2 I2 ⟨a, sb, ha⟩ => ?_) (.inr hyl))
  obtain ⟨f0, f1, f2, f3, f4, f5⟩ := f'
  have haC : C ≠ a := by
    rcases ha with z | z
    · rw [z]; exact f1
    · exact fun e => f4 y a z e.symm
  refine ⟨m, hn.sameBut sb haC, fun h3 sb3 => ?_⟩
  exact ⟨_, _, I2.turned (t' := s2.toks) (fun b o hb e => (sb3.2 b hb).trans e) f0 f1 f3 f4 f5, q o⟩
theorem s_setD {i : Nat} {y : Str} {py : Pos} {kx vx tg iter : Expr} {ifs : List Expr} {scope : Scope} {own : List (Str × Nat)} {mt : Env → M Bool} {mk mv : Env → M PV} {mi : Env → M ItV} {t : T} {pos spos : Pos} {X : Cx} {B : List Nat} (hc : X.calm = true) (hN : X.N.Nodup) (hy : X.N[i]? = some y) (hyl : X.env.scope.names.lookup y = some .local)
    (hsw : swapsWith (.DictComp kx vx [⟨tg, iter, ifs, 0⟩] scope pos) (some (.Name y py)) spos.line X.env = pure true) (hi : PI X tg iter (tIt X.K B mi)) (ok : BlkOk X.N X.env.scope scope own) (hsl : ∀ i ∈ t.slots, i ∈ own.map (·.2))
    (hg : ∀ (s : Shared) (H : Hp) (C : Addr) (cl : List (Str × Addr)) (fp : List Addr), PG (X.blk s H scope (compEnvC scope cl C X.env) fp) tg (tT X.K B t)) (ht : ∀ (s : Shared) (H : Hp) (C : Addr) (cl : List (Str × Addr)) (fp : List Addr), PTs (X.blk s H scope (compEnvC scope cl C X.env) fp) ifs (tMB X.K B mt))
    (hk : ∀ (s : Shared) (H : Hp) (C : Addr) (cl : List (Str × Addr)) (fp : List Addr), PE (X.blk s H scope (compEnvC scope cl C X.env) fp) kx (tM X.K B mk)) (hv : ∀ (s : Shared) (H : Hp) (C : Addr) (cl : List (Str × Addr)) (fp : List Addr), PE (X.blk s H scope (compEnvC scope cl C X.env) fp) vx (tM X.K B mv)) (hs : ∀ x, foldedSetIterable iter X.env x = pure x) :
    PS X (.Assign [.Name y py] (.DictComp kx vx [⟨tg, iter, ifs, 0⟩] scope pos) spos) (tS X.K B (mAsg (mDcomp mi t (own.map (·.2)) mt mk mv) (.nm i))) :=
  psI (ps_setDcL hc hN hy hyl hsw hi ok hg ht hk hv hs) fun D σ H x => by
    obtain ⟨env, α, h, f, h', g, er, e, k⟩ := x
    obtain ⟨v, h1, e1, e⟩ := bnd_some e
    obtain ⟨env', h2, e2, e3⟩ := bnd_some e
    obtain ⟨rfl, rfl⟩ := ret_some e3
    refine dcomp_read hsl ⟨env, α, h, v, h1, g, er, e1, fun α1 H1 u L p => ?_⟩
    unfold bindT at e2
    split at e2
    · cases e2
      obtain ⟨α', p1, hix, _⟩ := p.conv
      exact k α' H1 _ p1.step p1.good (((er.later g p.step).same hix).set p1.one)
    · cases e2
/-- o[i] = e -/
theorem s_sub {tpos : Pos} (hB : ∀ b ∈ B, b ≤ fb) (ha : PE X a (tM X.K B ma)) (hb : PE X b (tM X.K B mb)) (hc : PE X c (tM X.K B mc)) (hs : swapsWithSole [.Subscript b c tpos] a pos.line X.env = pure false)
    (hset : ∀ v, assign (.Subscript b c tpos) X.env v = (do
      let ov ← holding [v] (eval b X.env)
      let iv ← holding [v, ov] (eval c X.env)
      standAt tpos
      holding [v, ov, iv] (setItem ov iv v)
      release [v, ov, iv] [])) : PS X (.Assign [.Subscript b c tpos] a pos) (tS X.K B fun env => M.bnd (ma env) fun v => M.bnd (mb env) fun x => M.bnd (mc env) fun y => M.bnd (setV fb x y v) fun _ => M.ret (.nx env)) :=
  psI (ps_asg ha (pg_sub hb hc set_list hset) hs (by rfl) (by rfl)) fun D σ H ⟨env, α, h, f, h', g, er, e, k⟩ => by
    obtain ⟨v, h1, e1, e⟩ := bnd_some e
    obtain ⟨x, h2, e2, e⟩ := bnd_some e
    obtain ⟨y, h3, e3, e⟩ := bnd_some e
    obtain ⟨_, h4, e4, e5⟩ := bnd_some e
    obtain ⟨rfl, rfl⟩ := ret_some e5
    refine ⟨env, α, h, v, h1, g, er, e1, fun α1 H1 vv L1 p1 => ⟨env, α1, h1, x, h2, p1.good, er.later g p1.step, e2, fun α2 H2 vx L2 p2 => ?_⟩⟩
    have p12 := p1.app p2
    refine ⟨env, α2, h2, y, h3, p12.good, er.later g p12.step, e3, fun α3 H3 vy L3 p3 => ?_⟩
    have p123 := p12.app p3
    exact set_ok hB p123 e4 fun α4 H4 s4 g4 => k α4 H4 σ s4 g4 (er.later g s4)
theorem s_aug {i : Nat} {x : Str} {p' : Pos} {o : BOp} (hN : X.N.Nodup) (hi : X.N[i]? = some x) (hx : L2.Loc X.env.scope x) (hf : X.fn x = true ∨ X.env.scope.names.lookup x = some .local) (ho : o = .add ∨ o = .sub) (ha : PE X a (tM K B ma)) :
    PS X (.AugAssign (.Name x p') o.op a pos) (tS K B fun env => M.bnd (M.of (match env[i]? with
      | some (some v) => some v
      | _ => none)) fun v => M.bnd (ma env) fun y => M.bnd (augV o v y) fun z => M.bnd (bindT (.nm i) z env) fun e1 => M.ret (.nx e1)) := by
  have key : ∀ f, PIp X o.op (ipI f) → (∀ (u v w : PV) (h : Hs) h', augV o u v h = some (w, h') → ∃ i j, u = .d (.int i) ∧ v = .d (.int j) ∧ w = .d (.int (f i j)) ∧ h' = h) → _ := fun f hp hv =>
    psI (ps_aug hN hi hx ha hp hf (pos := pos) (pos' := p')) fun D σ H (q : tS K B (fun env => M.bnd (M.of (match env[i]? with
      | some (some v) => some v
      | _ => none)) fun v => M.bnd (ma env) fun y => M.bnd (augV o v y) fun z => M.bnd (bindT (.nm i) z env) fun e1 => M.ret (.nx e1)) D σ H) => by
      obtain ⟨env, α, h, f, h', g, er, e, k⟩ := q
      obtain ⟨v, h1, e1, e⟩ := bnd_some e
      obtain ⟨y, h2, e2, e⟩ := bnd_some e
      obtain ⟨z, h3, e3, e⟩ := bnd_some e
      obtain ⟨env', h4, e4, e5⟩ := bnd_some e
      obtain ⟨rfl, rfl⟩ := ret_some e5
      obtain ⟨i1, j1, rfl, rfl, rfl, rfl⟩ := hv _ _ _ _ _ e3
      obtain ⟨o1, rfl⟩ := of_some e1
      split at o1
      · rename_i v' ev
        cases o1
        obtain ⟨u, eu, r⟩ := er.get i _ ev
        obtain ⟨rfl, _⟩ := r.int_inv
        refine ⟨_, eu, env, α, _, _, _, g, er, e2, fun α1 H1 w L p => ?_⟩
        obtain ⟨rfl, _⟩ := p.one.int_inv
        refine ⟨i1, j1, rfl, rfl, ?_⟩
        unfold bindT at e4
        split at e4
        · cases e4
          exact k α1 H1 _ p.step p.good ((er.later g p.step).set (.d (.int _)))
        · cases e4
      · cases o1
  rcases ho with rfl | rfl
  · refine key _ ip_add fun u v w h h' e => ?_
    unfold augV at e
    split at e <;> first | (cases e; exact ⟨_, _, rfl, rfl, rfl, rfl⟩) | cases e
    rename_i q
    cases q
  · refine key _ ip_sub fun u v w h h' e => ?_
    unfold augV at e
    split at e <;> first | (cases e; exact ⟨_, _, rfl, rfl, rfl, rfl⟩) | cases e
    rename_i q
    cases q
end
end Pe
/-! Pe: {elt for target in iter if ..} of whole numbers, and how many they are. -/
namespace Pe
open PySem PySem.Spec PyProof.Rows L2
/-- what such a set asks: D is the set in the making -/
def tSi (w : World) (wi : TI) (g : TG) (tt : TT) (te : TE) (vs : List Nat) : TE := fun σ H Q =>
  wi σ H fun J H1 =>
    ∀ D, H1 D = none →
      ∃ W : Nat → Nat → Hp → Prop,
        (∃ m, W 0 m (upd H1 D (SetO w D (fun _ => false) 0))) ∧
        ∀ i m H, W i m H →
          (J.stop i H ∧ Q (.ref D) H) ∨
          (J.go i H ∧ ∃ Nx : Hp → Prop,
            (∀ H', Nx H' → ∃ m', m' < m ∧ W (i + 1) m' H') ∧
            ∀ x H', J.yld i H x H' →
              g x (wipe σ vs) H' fun σ2 H2 =>
                wipe σ2 vs = wipe σ vs ∧
                tt σ2 H2 fun b H3 =>
                  if b = true then te σ2 H3 fun y H4 => rSAdd w (.ref D) [y] H4 fun _ H5 => Nx H5
                  else Nx H3)
section
variable {X : Cx}
theorem pe_si {elt tg iter : Expr} {ifs : List Expr} {scope : Scope} {own : List (Str × Nat)} {pos : Pos} {wi : TI} {g : TG} {tt : TT} {te : TE}
    (calm : X.calm = true) (nodup : X.N.Nodup) (src : PI X tg iter wi) (blk : BlkOk X.N X.env.scope scope own)
    (pg : ∀ (s : Shared) (H : Hp) (C : Addr) (cl : List (Str × Addr)) (fp : List Addr), PG (X.blk s H scope (compEnvC scope cl C X.env) fp) tg g)
    (pt : ∀ (s : Shared) (H : Hp) (C : Addr) (cl : List (Str × Addr)) (fp : List Addr), PTs (X.blk s H scope (compEnvC scope cl C X.env) fp) ifs tt)
    (pe : ∀ (s : Shared) (H : Hp) (C : Addr) (cl : List (Str × Addr)) (fp : List Addr), PE (X.blk s H scope (compEnvC scope cl C X.env) fp) elt te)
    (plain : ∀ x, foldedSetIterable iter X.env x = pure x) :
    PE X (.SetComp elt [⟨tg, iter, ifs, 0⟩] scope pos) (tSi X.w wi g tt te (own.map (·.2))) := by
  constructor
  intro pins s0 σ H0 Q I0 ask
  rw [PpSet.eval_SetComp]
  have cells : ∀ y ∈ scope.names, y.2 = .free → ∃ c, X.env.cells.lookup y.1 = some c := by
    intro y hy e
    exact (blk.free y hy e).elim (fun k => I0.ok.has _ (.inl k)) fun k => I0.ok.has _ (.inr k)
  refine wpAny_comprehension_free rfl plain (closure_ok cells) blk.kind (fun y hy e => by rw [blk.uniq y hy, e]) ?_
  refine thn (src.run pins s0 σ H0 _ I0 ask) fun _ s1 h1 => thn h1 fun _ s2 h2 => ?_
  obtain ⟨it, fp, tn, J, H2, rfl, I2, T, at0, free2, rest⟩ := h2
  refine PpSet.newSet_ok (newEnv_comp ?_)
  -- the new set
  let obj : Obj := { cls := .type "set", dict := none, data := .set #[] 0 (.fresh 0 0 (!X.w.params.followText "set-order")) }
  obtain ⟨W, ⟨m0, w0⟩, turns⟩ := rest s2.heap.objs.size (I2.hok.fresh (Nat.le_refl _))
  have none2 : H2 s2.heap.objs.size = none := I2.hok.fresh (Nat.le_refl _)
  generalize hD : s2.heap.objs.size = D at *
  generalize hH3 : upd H2 D (SetO X.w D (fun _ => false) 0) = H3 at *
  have push : ∀ b o, s2.heap.get? b = some o → (s2.heap.push obj).get? b = some o := fun b o e => Heap.get?_push_of_some _ e
  have I3 : Inv X pins σ H3 { s2 with heap := s2.heap.push obj } := by
    rw [← hH3]
    refine I2.laid (t' := s2.toks) push (Nat.le_of_eq hD) ?_
    have new := setR_fresh (h := s2.heap) X.w
    rw [hD] at new
    exact setO_new new
  generalize hs3 : ({ s2 with heap := s2.heap.push obj } : Shared) = s3 at *
  have heap3 : s3.heap = s2.heap.push obj := by rw [← hs3]
  have foot : ∀ b ∈ fp, FpOk X pins H3 b ∧ b < s3.heap.objs.size := by
    intro b hb
    obtain ⟨o, e, _⟩ := T.obj _ _ at0 b hb
    have lt : b < D := by
      rw [← hD]
      exact Heap.lt_size e
    refine ⟨⟨?_, (free2 b hb).2⟩, ?_⟩
    · rw [← hH3, upd_ne (Nat.ne_of_lt lt)]
      exact (free2 b hb).1
    · rw [heap3, Heap.size_push, hD]
      exact Nat.lt_succ_of_lt lt
  have at3 : tn 0 s3.heap := T.keep _ _ _ at0 fun b _ o e => by
    rw [heap3]
    exact push b o e
  have I4 := block_start I3 blk nodup foot
  let C := s3.heap.objs.size
  let cl := cellsFrom (C + 1) scope.names (cloFrom X.env.cells scope.names [])
  have G := pg s3 H3 C cl fp
  have Ts := pt s3 H3 C cl fp
  have El := pe s3 H3 C cl fp
  show codeAny _ _ (.compStart (.SetComp elt [⟨tg, iter, ifs, 0⟩] scope pos) 0 (.ref it) (.ref D) (compEnvC scope cl C X.env)) (compPost (model X.prog X.w) X.A X.xe none _ (.ref D) C) { s3 with heap := pushCells (s3.heap.push { cls := .type "dict", data := .dict #[] }) scope.names }
  have loc : (compEnvC scope cl C X.env).locals = C := rfl
  generalize hce : compEnvC scope cl C X.env = ce at *
  generalize hs4 : ({ s3 with heap := pushCells (s3.heap.push { cls := .type "dict", data := .dict #[] }) scope.names } : Shared) = s4 at *
  have at4 : tn 0 s4.heap := T.keep _ _ _ at3 fun b _ o e => by
    rw [← hs4]
    exact pushCells_keeps _ _ _ _ (Heap.get?_push_of_some _ e)
  have still : ∀ {σ' : L2.St} {H' : Hp} {s' : Shared}, Inv (X.blk s3 H3 scope ce fp) [] σ' H' s' → (∀ b ∈ fp, H' b = none) → ∀ b ∈ fp, FpOk (X.blk s3 H3 scope ce fp) [] H' b := by
    intro σ' H' s' I' none b hb
    refine ⟨none b hb, (I'.ok.exf b hb).1, I'.ok.exfs b hb, .inl hb, fun x c e => (I'.ok.exf b hb).2 x c e, fun p hp => ?_⟩
    cases (show p ∈ ([] : List (Addr × Obj)) from hp)
  let Turn : Nat → Shared → Prop := fun n s' => ∃ i H', Inv (X.blk s3 H3 scope ce fp) [] (wipe σ (own.map (·.2))) H' s' ∧ tn i s'.heap ∧ (∀ b ∈ fp, H' b = none) ∧ W i n H'
  refine PpSet.codeAny_compStart_set ?_ (T.self X.A 0 _ _ _ at4 ?_) <;>
  · refine PpSet.compLoopS_any Turn ?_ m0 ⟨0, H3, I4, at4, fun b hb => (foot b hb).1.1, w0⟩
    rintro n s5 ⟨i, H5, I5, at5, none5, w5⟩
    rcases turns i n H5 w5 with ⟨stop, q⟩ | ⟨go, Nx, less, step⟩
    · -- the end
      refine thnF (T.done (X.blk s3 H3 scope ce fp) rfl rfl rfl calm i [] s5 _ H5 (fun _ _ => False) I5 (still I5 none5) at5 stop) fun r s6 hr => ?_
      obtain ⟨rfl, I6⟩ := hr
      have back : Inv X pins σ H5 s6 := I3.call' (ch := fp) I6.os I6.base I6.hok I6.bare fun b hb => by
        obtain ⟨_, a1, a2, a3, a4, a5⟩ := (foot b hb).1
        exact ⟨a3, a1, a4, a5⟩
      have noneC : H5 C = none := by
        have z : H5 ce.locals = none := I6.free
        rw [loc] at z
        exact z
      obtain ⟨m, ns, _⟩ := I6.loc
      have ns : s6.heap.Ns ce.locals m := ns
      rw [loc] at ns
      refine ⟨m, ns, fun h'' sb => ?_⟩
      obtain ⟨f0, f1, f2, f3, f4, f5⟩ := I3.fpOk (b := C) (Nat.le_refl _) noneC
      exact ⟨.ref D, H5, back.turned (t' := s6.toks) (fun b o hb e => (sb.2 b hb).trans e) f0 f1 f3 f4 f5, rfl, q⟩
    · -- one more
      refine thnF (T.item (X.blk s3 H3 scope ce fp) rfl rfl rfl calm i [] s5 _ H5 (fun _ _ => False) I5 (still I5 none5) at5 go) fun r s6 hr => ?_
      obtain ⟨u, rfl, h6⟩ := hr
      refine thnF h6 fun _ s7 h7 => ?_
      obtain ⟨x, H7, I7, r7, y7, at7, none7⟩ := h7
      have J7 := I7.pinned (still I7 none7) (T.obj _ _ at7)
      refine thnF (G.run _ s7 _ H7 x u _ J7 r7 (step x H7 y7)) fun _ s8 h8 => ?_
      obtain ⟨σ8, H8, I8, same8, q8⟩ := h8
      refine thnF (Ts.run _ s8 σ8 H8 _ I8 q8) fun b s9 h9 => ?_
      obtain ⟨H9, I9, q9⟩ := h9
      have ends : ∀ {s' : Shared} {H' : Hp}, Inv (X.blk s3 H3 scope ce fp) ([] ++ pinsAt fp s7.heap) σ8 H' s' → Nx H' → ∃ m, m < n ∧ Turn m s' := by
        intro s' H' I' nx
        obtain ⟨m', lt, w'⟩ := less H' nx
        have pinned : ∀ b ∈ fp, ∀ o, s7.heap.get? b = some o → s'.heap.get? b = some o ∧ H' b = none := by
          intro b hb o e
          have z := I'.pin (b, o) (List.mem_append_right _ (List.mem_append_right _ (mem_pinsAt hb e)))
          exact ⟨z.1, z.2.1⟩
        refine ⟨m', lt, i + 1, H', (I'.unpinned (pins := [])).weak (by rw [← same8, wipe_length]) ?_, T.keep _ _ _ at7 fun b hb o e => (pinned b hb o e).1, ?_, w'⟩
        · intro j v e
          rw [← same8] at e
          exact (wipe_some e).1
        · intro b hb
          obtain ⟨o, e, _⟩ := T.obj _ _ at7 b hb
          exact (pinned b hb o e).2
      cases b with
      | false =>
        rw [if_neg Bool.false_ne_true] at q9
        rw [if_neg Bool.false_ne_true]
        exact ends I9 q9
      | true =>
        rw [if_pos rfl] at q9
        rw [if_pos rfl]
        refine thnF (El.run _ s9 σ8 H9 _ I9 q9) fun z s10 h10 => ?_
        obtain ⟨y, H10, I10, r10, q10⟩ := h10
        refine thnF (mt_sadd (X := X.blk s3 H3 scope ce fp) _ s10 σ8 H10 (.ref D) [y] (.ref D) [z] _ I10 rfl (.cons r10 .nil) q10) fun _ s11 h11 => ?_
        obtain ⟨_, H11, I11, _, nx⟩ := h11
        exact ends I11 nx
end
end Pe
/-! Pe: comprehensions with two generators; how many different whole numbers. -/
namespace Pe
open PySem PySem.Spec PyProof.Rows L2
def mIn (n : Nat) (t1 : T) (own1 : List Nat) (mt1 : Env → M Bool) (me : Env → M PV) (env1 : Env) : PV → M Unit := fun y => M.bnd (bindT t1 y (wipeE env1 own1)) fun env2 => M.bnd (mt1 env2) fun k1 => if k1 then M.bnd (me env2) fun z => pushC n z else M.ret ()
def mOut (n : Nat) (t : T) (own : List Nat) (mt : Env → M Bool) (mi1 : Env → M ItV) (t1 : T) (own1 : List Nat) (mt1 : Env → M Bool) (me : Env → M PV) (env : Env) : PV → M Unit := fun x => M.bnd (bindT t x (wipeE env own)) fun env1 => M.bnd (mt env1) fun k =>
  if k then M.bnd (mi1 env1) fun iv1 => fun h1 => uloop (mIn n t1 own1 mt1 me env1) iv1 (iv1.fuel h1) 0 h1 else M.ret ()
def mC2 (mi : Env → M ItV) (t : T) (own : List Nat) (mt : Env → M Bool) (mi1 : Env → M ItV) (t1 : T) (own1 : List Nat) (mt1 : Env → M Bool) (me : Env → M PV) : Env → M PV := fun env => M.bnd (mi env) fun iv => fun h =>
  match uloop (mOut h.length t own mt mi1 t1 own1 mt1 me env) iv (iv.fuel h) 0 (h ++ [.lst []]) with
  | some (_, h1) => some (.ref h.length, h1)
  | none => none
theorem pushC_some {n : Nat} {y : PV} {h h' : Hs} {u : Unit} (e : pushC n y h = some (u, h')) : ∃ d xs, y = .d d ∧ h[n]? = some (.lst xs) ∧ xs.length < sizeLine ∧ h' = h.set n (.lst (xs ++ [.d d])) := by
  unfold pushC at e
  split at e
  · rename_i d
    split at e
    · rename_i xs q
      split at e
      · rename_i z
        cases e
        exact ⟨d, xs, rfl, q, z, rfl⟩
      · cases e
    · cases e
  · cases e
section
variable {X : Cx} {B : List Nat} {elt tg iter tg1 iter1 : Expr} {ifs ifs1 : List Expr} {scope : Scope} {own : List (Str × Nat)} {own1 : List Nat} {pos : Pos} {mi mi1 : Env → M ItV} {t t1 : T} {mt mt1 : Env → M Bool} {me : Env → M PV}
theorem c2_read {σ : L2.St} {H : Hp} {Q : VK} (hsl : ∀ i ∈ t.slots, i ∈ own.map (·.2)) (hs1 : ∀ i ∈ t1.slots, i ∈ own1) (tt : tM X.K B (mC2 mi t (own.map (·.2)) mt mi1 t1 own1 mt1 me) σ H Q) :
    tLc2 (tIt X.K B mi) (tT X.K B t) (tMB X.K B mt) (tIt X.K B mi1) (tT X.K B t1) (tMB X.K B mt1) (tM X.K B me) (own.map (·.2)) own1 σ H Q := by
  obtain ⟨env, α, h, z, h', g, er, e, q⟩ := tt
  obtain ⟨iv, h1, e1, e⟩ := bnd_some e
  refine ⟨env, α, h, iv, h1, g, er, e1, fun α1 H1 J s1 g1 wk D nD => ?_⟩
  cases ec : uloop (mOut h1.length t (own.map (·.2)) mt mi1 t1 own1 mt1 me env) iv (iv.fuel h1) 0 (h1 ++ [.lst []]) with
  | none =>
    rw [ec] at e
    cases e
  | some r =>
  obtain ⟨_, hf⟩ := r
  rw [ec] at e
  cases e
  have oD : D ∉ α1 := fun z => by
    obtain ⟨_, _, us, _, _, e⟩ := g1.of_addr z
    rw [nD] at e
    cases e
  have gD : Good X.K B (α1 ++ [D]) (h1 ++ [.lst []]) (upd H1 D (.lst [])) := (g1.fresh nD).push oD upd_same (Nat.zero_le _) .nil
  have sD : Step α1 H1 (α1 ++ [D]) (upd H1 D (.lst [])) := by
    have f : Step α1 H1 α1 (upd H1 D (.lst [])) := Step.fresh nD
    exact ⟨⟨[D], rfl, fun a ha => by rw [List.mem_singleton.mp ha]; exact nD⟩, f.keep, f.there⟩
  have ixD : (α1 ++ [D])[h1.length]? = some D := by
    rw [← g1.len]
    exact List.getElem?_concat_length ..
  refine ⟨fun i m H' => ∃ αi hi, Step (α1 ++ [D]) (upd H1 D (.lst [])) αi H' ∧ Good X.K B αi hi H' ∧ uloop (mOut h1.length t (own.map (·.2)) mt mi1 t1 own1 mt1 me env) iv m i hi = some ((), h'), ⟨iv.fuel h1, α1 ++ [D], _, .refl, gD, ec⟩, ?_⟩
  rintro i m H' ⟨αi, hi, S, gi, ce⟩
  have wi := wk αi H' hi (sD.trans S) gi i
  have stop : iv.at hi i = some none → h' = hi → J.stop i H' ∧ Q (.ref D) H' := fun ea e2 => by
    subst e2
    exact ⟨wi.1 ea, q αi H' (.ref D) [] ⟨s1.trans (sD.trans S), gi, (PR.ref (S.ix _ _ ixD)).ones, List.nodup_nil, fun _ z => absurd z List.not_mem_nil, fun _ z => absurd z List.not_mem_nil⟩⟩
  cases m with
  | zero =>
    unfold uloop at ce
    split at ce
    · rename_i ea
      cases ce
      exact .inl (stop ea rfl)
    · cases ce
  | succ m =>
    unfold uloop at ce
    split at ce
    · rename_i ea
      cases ce
      exact .inl (stop ea rfl)
    · rename_i x ea
      refine .inr ⟨(wi.2 x ea).1, fun H'' => ∃ αi hi, Step (α1 ++ [D]) (upd H1 D (.lst [])) αi H'' ∧ Good X.K B αi hi H'' ∧ uloop (mOut h1.length t (own.map (·.2)) mt mi1 t1 own1 mt1 me env) iv m (i + 1) hi = some ((), h'), fun H'' n => ⟨m, Nat.lt_succ_self m, n⟩, fun v H2 yl => ?_⟩
      obtain ⟨kp, rx⟩ := (wi.2 x ea).2 v H2 yl
      have st2 : Step αi H' αi H2 := Step.of_kept kp
      have g2 := gi.mono kp
      have S2 := S.trans st2
      split at ce
      · rename_i _ h3 eo
        obtain ⟨env1, h2, eb, eo⟩ := bnd_some eo
        obtain ⟨k, h4, et, eo⟩ := bnd_some eo
        have er2 : EnvR X.K αi H2 (wipeE env (own.map (·.2))) (L2.wipe σ (own.map (·.2))) := (er.later g (s1.trans (sD.trans S2))).wipe _
        refine ⟨αi, H2, αi, hi, _, x, [], env1, h2, ⟨.refl, g2, rx.ones, List.nodup_nil, fun _ z => absurd z List.not_mem_nil, fun _ z => absurd z List.not_mem_nil⟩, er2, eb, fun α3 σ3 s3 g3 er3 sb3 _ => ?_⟩
        cases k with
        | false =>
          obtain ⟨_, rfl⟩ := ret_some eo
          refine ⟨(wipe_eq sb3.1 fun i hi => sb3.2 i fun z => hi (hsl i z)).trans wipe_wipe, env1, α3, h2, false, h3, g3, er3, et, fun α4 H4 s4 g4 => iteF ?_⟩
          exact ⟨α4, h3, (S2.trans s3).trans s4, g4, ce⟩
        | true =>
          obtain ⟨iv1, h5, ei, el⟩ := bnd_some eo
          refine ⟨(wipe_eq sb3.1 fun i hi => sb3.2 i fun z => hi (hsl i z)).trans wipe_wipe, env1, α3, h2, true, h4, g3, er3, et, fun α4 H4 s4 g4 => iteT ?_⟩
          refine ⟨env1, α4, h4, iv1, h5, g4, er3.later g3 s4, ei, fun α5 H5 J1 s5 g5 wk1 => ?_⟩
          have S5 := ((S2.trans s3).trans s4).trans s5
          have er5 : EnvR X.K α5 H5 env1 σ3 := er3.later g3 (s4.trans s5)
          refine ⟨fun j k H'' => ∃ αj hj, Step α5 H5 αj H'' ∧ Good X.K B αj hj H'' ∧ uloop (mIn h1.length t1 own1 mt1 me env1) iv1 k j hj = some ((), h3), ⟨iv1.fuel h5, α5, h5, .refl, g5, el⟩, ?_⟩
          rintro j k H6 ⟨αj, hj, T, gj, cj⟩
          have wj := wk1 αj H6 hj T gj j
          have stop1 : iv1.at hj j = some none → h3 = hj → J1.stop j H6 ∧ ∃ αi hi, Step (α1 ++ [D]) (upd H1 D (.lst [])) αi H6 ∧ Good X.K B αi hi H6 ∧ uloop (mOut h1.length t (own.map (·.2)) mt mi1 t1 own1 mt1 me env) iv m (i + 1) hi = some ((), h') := fun ea e2 => by
            subst e2
            exact ⟨wj.1 ea, αj, h3, S5.trans T, gj, ce⟩
          cases k with
          | zero =>
            unfold uloop at cj
            split at cj
            · rename_i ea1
              cases cj
              exact .inl (stop1 ea1 rfl)
            · cases cj
          | succ k =>
            unfold uloop at cj
            split at cj
            · rename_i ea1
              cases cj
              exact .inl (stop1 ea1 rfl)
            · rename_i y ea1
              refine .inr ⟨(wj.2 y ea1).1, fun H'' => ∃ αj hj, Step α5 H5 αj H'' ∧ Good X.K B αj hj H'' ∧ uloop (mIn h1.length t1 own1 mt1 me env1) iv1 k (j + 1) hj = some ((), h3), fun H'' n => ⟨k, Nat.lt_succ_self k, n⟩, fun v1 H7 yl1 => ?_⟩
              obtain ⟨kp1, ry⟩ := (wj.2 y ea1).2 v1 H7 yl1
              have st7 : Step αj H6 αj H7 := Step.of_kept kp1
              have g7 := gj.mono kp1
              have T7 := T.trans st7
              split at cj
              · rename_i _ h6 eo1
                obtain ⟨env2, h7, eb1, eo1⟩ := bnd_some eo1
                obtain ⟨k1, h8, et1, eo1⟩ := bnd_some eo1
                have er7 : EnvR X.K αj H7 (wipeE env1 own1) (L2.wipe σ3 own1) := (er5.later g5 T7).wipe _
                refine ⟨αj, H7, αj, hj, _, y, [], env2, h7, ⟨.refl, g7, ry.ones, List.nodup_nil, fun _ z => absurd z List.not_mem_nil, fun _ z => absurd z List.not_mem_nil⟩, er7, eb1, fun α8 σ8 s8 g8 er8 sb8 _ => ?_⟩
                cases k1 with
                | false =>
                  obtain ⟨_, rfl⟩ := ret_some eo1
                  refine ⟨(wipe_eq sb8.1 fun i hi => sb8.2 i fun z => hi (hs1 i z)).trans wipe_wipe, env2, α8, h7, false, h6, g8, er8, et1, fun α9 H9 s9 g9 => iteF ?_⟩
                  exact ⟨α9, h6, (T7.trans s8).trans s9, g9, cj⟩
                | true =>
                  obtain ⟨zv, h9, ey, ep⟩ := bnd_some eo1
                  refine ⟨(wipe_eq sb8.1 fun i hi => sb8.2 i fun z => hi (hs1 i z)).trans wipe_wipe, env2, α8, h7, true, h8, g8, er8, et1, fun α9 H9 s9 g9 => iteT ?_⟩
                  refine ⟨env2, α9, h8, zv, h9, g9, er8.later g8 s9, ey, fun αa Ha w M pa => ?_⟩
                  obtain ⟨d, xs, rfl, en, hz, rfl⟩ := pushC_some ep
                  have Ta := ((T7.trans s8).trans s9).trans pa.step
                  have ixa : αa[h1.length]? = some D := (S5.trans Ta).ix _ _ ixD
                  obtain ⟨vs, hD, zz, rr⟩ := pa.good.cell _ xs D en ixa
                  obtain ⟨gb, sb⟩ := pa.good.write (ys := xs ++ [.d d]) (ws := vs ++ [w]) en ixa (by rw [List.length_append]; exact hz) (rr.append (L := []) (by cases pa.one with | d hdr => exact (PR.d hdr).ones)) fun b hb hn => lts_append ((pa.good.wf b hb).2 _ _ hn en) (lts_map_d [d])
                  exact ⟨vs, hD, by rw [← rr.length]; exact hz, αa, _, Ta.trans sb, gb, cj⟩
              · cases cj
            · cases cj
      · cases ce
    · cases ce
theorem e_comp2 (hc : X.calm = true) (hN : X.N.Nodup) (hi : PI X tg iter (tIt X.K B mi)) (ok : BlkOk X.N X.env.scope scope own) (hsl : ∀ i ∈ t.slots, i ∈ own.map (·.2)) (hv : ∀ i ∈ own1, i ∈ own.map (·.2)) (hs1 : ∀ i ∈ t1.slots, i ∈ own1)
    (hg : ∀ (s : Shared) (H : Hp) (C : Addr) (cl : List (Str × Addr)) (fp : List Addr), PG (X.blk s H scope (compEnvC scope cl C X.env) fp) tg (tT X.K B t)) (ht : ∀ (s : Shared) (H : Hp) (C : Addr) (cl : List (Str × Addr)) (fp : List Addr), PTs (X.blk s H scope (compEnvC scope cl C X.env) fp) ifs (tMB X.K B mt))
    (hi1 : ∀ (s : Shared) (H : Hp) (C : Addr) (cl : List (Str × Addr)) (fp : List Addr), PI (X.blk s H scope (compEnvC scope cl C X.env) fp) tg1 iter1 (tIt X.K B mi1))
    (hg1 : ∀ (s : Shared) (H : Hp) (C : Addr) (cl : List (Str × Addr)) (fp : List Addr), PG (X.blk s H scope (compEnvC scope cl C X.env) fp) tg1 (tT X.K B t1)) (ht1 : ∀ (s : Shared) (H : Hp) (C : Addr) (cl : List (Str × Addr)) (fp : List Addr), PTs (X.blk s H scope (compEnvC scope cl C X.env) fp) ifs1 (tMB X.K B mt1))
    (he : ∀ (s : Shared) (H : Hp) (C : Addr) (cl : List (Str × Addr)) (fp : List Addr), PE (X.blk s H scope (compEnvC scope cl C X.env) fp) elt (tM X.K B me)) (hs : ∀ x, foldedSetIterable iter X.env x = pure x) (hs2 : ∀ env x, foldedSetIterable iter1 env x = pure x) :
    PE X (.ListComp elt [⟨tg, iter, ifs, 0⟩, ⟨tg1, iter1, ifs1, 0⟩] scope pos) (tM X.K B (mC2 mi t (own.map (·.2)) mt mi1 t1 own1 mt1 me)) :=
  peI (pe_lc2 hc hN hi ok hv hg ht hi1 hg1 ht1 he hs hs2) fun σ H Q tt => c2_read hsl hs1 tt
theorem s_setC2 {i : Nat} {y : Str} {py spos : Pos} (hc : X.calm = true) (hN : X.N.Nodup) (hy : X.N[i]? = some y) (hyl : X.env.scope.names.lookup y = some .local)
    (hsw : swapsWith (.ListComp elt [⟨tg, iter, ifs, 0⟩, ⟨tg1, iter1, ifs1, 0⟩] scope pos) (some (.Name y py)) spos.line X.env = pure true)
    (hi : PI X tg iter (tIt X.K B mi)) (ok : BlkOk X.N X.env.scope scope own) (hsl : ∀ i ∈ t.slots, i ∈ own.map (·.2)) (hv : ∀ i ∈ own1, i ∈ own.map (·.2)) (hs1 : ∀ i ∈ t1.slots, i ∈ own1)
    (hg : ∀ (s : Shared) (H : Hp) (C : Addr) (cl : List (Str × Addr)) (fp : List Addr), PG (X.blk s H scope (compEnvC scope cl C X.env) fp) tg (tT X.K B t)) (ht : ∀ (s : Shared) (H : Hp) (C : Addr) (cl : List (Str × Addr)) (fp : List Addr), PTs (X.blk s H scope (compEnvC scope cl C X.env) fp) ifs (tMB X.K B mt))
    (hi1 : ∀ (s : Shared) (H : Hp) (C : Addr) (cl : List (Str × Addr)) (fp : List Addr), PI (X.blk s H scope (compEnvC scope cl C X.env) fp) tg1 iter1 (tIt X.K B mi1))
    (hg1 : ∀ (s : Shared) (H : Hp) (C : Addr) (cl : List (Str × Addr)) (fp : List Addr), PG (X.blk s H scope (compEnvC scope cl C X.env) fp) tg1 (tT X.K B t1)) (ht1 : ∀ (s : Shared) (H : Hp) (C : Addr) (cl : List (Str × Addr)) (fp : List Addr), PTs (X.blk s H scope (compEnvC scope cl C X.env) fp) ifs1 (tMB X.K B mt1))
    (he : ∀ (s : Shared) (H : Hp) (C : Addr) (cl : List (Str × Addr)) (fp : List Addr), PE (X.blk s H scope (compEnvC scope cl C X.env) fp) elt (tM X.K B me)) (hs : ∀ x, foldedSetIterable iter X.env x = pure x) (hs2 : ∀ env x, foldedSetIterable iter1 env x = pure x) :
    PS X (.Assign [.Name y py] (.ListComp elt [⟨tg, iter, ifs, 0⟩, ⟨tg1, iter1, ifs1, 0⟩] scope pos) spos) (tS X.K B (mAsg (mC2 mi t (own.map (·.2)) mt mi1 t1 own1 mt1 me) (.nm i))) :=
  psI (ps_setLc2 hc hN hy hyl hsw hi ok hv hg ht hi1 hg1 ht1 he hs hs2) fun D σ H x => by
    obtain ⟨env, α, h, f, h', g, er, e, k⟩ := x
    obtain ⟨v, h1, e1, e⟩ := bnd_some e
    obtain ⟨env', h2, e2, e3⟩ := bnd_some e
    obtain ⟨rfl, rfl⟩ := ret_some e3
    refine c2_read hsl hs1 ⟨env, α, h, v, h1, g, er, e1, fun α1 H1 u L p => ?_⟩
    unfold bindT at e2
    split at e2
    · cases e2
      obtain ⟨α', p1, hix, _⟩ := p.conv
      exact k α' H1 _ p1.step p1.good (((er.later g p.step).same hix).set p1.one)
    · cases e2
/-! ### how many different whole numbers -/
def lenQ (w : World) (Q : VK) : VK := fun v H => ∃ D S n, v = .ref D ∧ H D = some (SetO w D S n) ∧ n < 4096 ∧ Q (.int n) H
theorem pe_lenO {a : Expr} {ta : TE} {p pos : Pos} (hc : X.calm = true) (hg : Gl X "len") (hm : X.mg "len" = none) (ha : PE X a ta) (na : starEach [a] X.env = (false, eval a X.env) :: starEach [] X.env) :
    PE X (.Call (.Name "len" p) [a] [] pos) (fun σ H Q => ta σ H (lenQ X.w Q)) := by
  constructor
  intro pins s σ H Q I ask
  refine Call_ (ld_blt I hg hm PySem.boot_len ?_)
  refine PyProof.Rows.callWith_builtin1 (PyProof.Rows.args_cons (thn (ha.run pins s σ H _ I ask) fun v s1 hv => PyProof.Rows.args_nil ?_) na) na rfl
  obtain ⟨x, H1, I1, r1, D, S, n, rfl, hD, hn, q⟩ := hv
  cases r1
  have R := (setO_get I1 hD).setOf (P := X.prog)
  obtain ⟨o, es, ep, t, ho, hex, hd, _, _, _, hf, hsz⟩ := R
  exact call_len_set ho hex hd hf (by rw [hsz]; omega) ⟨.int n, H1, I1.tok _, ⟨_, by rw [hsz]⟩, q⟩
theorem cloop_pre {f : PV → M (Option PV)} {iv : ItV} : ∀ {m i : Nat} {ys zs : List PV} {h h' : Hs}, cloop f iv m i ys h = some (zs, h') → ∃ ws, zs = ys ++ ws
  | 0, i, ys, zs, h, h', e => by
    unfold cloop at e
    split at e
    · cases e
      exact ⟨[], (List.append_nil _).symm⟩
    · cases e
  | m + 1, i, ys, zs, h, h', e => by
    unfold cloop at e
    split at e
    · cases e
      exact ⟨[], (List.append_nil _).symm⟩
    · split at e
      · split at e
        · obtain ⟨ws, q⟩ := cloop_pre e
          exact ⟨_ :: ws, by rw [q, List.append_assoc]; rfl⟩
        · cases e
      · exact cloop_pre e
      · cases e
    · cases e
theorem intsOf_mem : ∀ {xs : List PV} {ns : List Int}, intsOf xs = some ns → xs = ns.map fun k => PV.d (.int k)
  | [], ns, e => by
    cases e
    rfl
  | .d (.int i) :: xs, ns, e => by
    have e : (match intsOf xs with
      | some ns => some (i :: ns)
      | none => none) = some ns := e
    cases q : intsOf xs with
    | none => rw [q] at e; cases e
    | some ms =>
      rw [q] at e
      cases e
      rw [intsOf_mem q]
      rfl
  | .d (.bl _) :: _, _, e => by cases e
  | .d (.str _) :: _, _, e => by cases e
  | .d .non :: _, _, e => by cases e
  | .d (.tup _) :: _, _, e => by cases e
  | .tl _ :: _, _, e => by cases e
  | .fl _ :: _, _, e => by cases e
  | .ref _ :: _, _, e => by cases e
  | .fd _ :: _, _, e => by cases e
  | .rg _ :: _, _, e => by cases e
  | .mt _ :: _, _, e => by cases e
theorem met_snoc {ns : List Int} {k : Int} : met (ns ++ [k]) = if k ∈ met ns then met ns else met ns ++ [k] := by
  unfold met
  rw [List.foldl_append]
  rfl
theorem met_len {ns : List Int} : (met ns).length ≤ ns.length := by
  have key : ∀ (l acc : List Int), (l.foldl (fun acc x => if x ∈ acc then acc else acc ++ [x]) acc).length ≤ acc.length + l.length := by
    intro l
    induction l with
    | nil => exact fun acc => Nat.le_refl _
    | cons x l ih =>
      intro acc
      have := ih (if x ∈ acc then acc else acc ++ [x])
      rw [List.foldl_cons, List.length_cons]
      refine Nat.le_trans this ?_
      split
      · omega
      · rw [List.length_append, List.length_singleton]; omega
  have := key ns []
  rwa [List.length_nil, Nat.zero_add] at this
def mLsc (mi : Env → M ItV) (t : T) (own : List Nat) (mt : Env → M Bool) (me : Env → M PV) : Env → M PV := fun env => M.bnd (mi env) fun iv => fun h => match cloop (mItem t own mt me env) iv (iv.fuel h) 0 [] h with
  | some (ys, h1) => lenS ys h1
  | none => none
theorem lsc_read {σ : L2.St} {H : Hp} {Q : VK} (hsl : ∀ i ∈ t.slots, i ∈ own.map (·.2)) (tt : tM X.K B (mLsc mi t (own.map (·.2)) mt me) σ H Q) : tSi X.w (tIt X.K B mi) (tT X.K B t) (tMB X.K B mt) (tM X.K B me) (own.map (·.2)) σ H (lenQ X.w Q) := by
  obtain ⟨env, α, h, z, h', g, er, e, q⟩ := tt
  obtain ⟨iv, h1, e1, e⟩ := bnd_some e
  refine ⟨env, α, h, iv, h1, g, er, e1, fun α1 H1 J s1 g1 wk D nD => ?_⟩
  cases ec : cloop (mItem t (own.map (·.2)) mt me env) iv (iv.fuel h1) 0 [] h1 with
  | none =>
    rw [ec] at e
    cases e
  | some r =>
  obtain ⟨zs, hf⟩ := r
  rw [ec] at e
  have e : lenS zs hf = some (z, h') := e
  unfold lenS at e
  split at e
  · rename_i ns en
    split at e
    · rename_i hl
      cases e
      have zn := intsOf_mem en
      have n0 : H D = none := s1.none_back nD
      have oD : D ∉ α1 := fun z => by
        obtain ⟨_, _, us, _, _, e⟩ := g1.of_addr z
        rw [nD] at e
        cases e
      have pre : ∀ {i m : Nat} {ks : List Int} {hi : Hs}, cloop (mItem t (own.map (·.2)) mt me env) iv m i (ks.map fun k => PV.d (.int k)) hi = some (zs, h') → ks.length < 1000 := fun {i m ks hi} c => by
        obtain ⟨ws, e⟩ := cloop_pre c
        have := congrArg List.length e
        rw [zn, List.length_map, List.length_append, List.length_map] at this
        omega
      let St : Nat → Nat → Hp → Prop := fun i m H' => ∃ (αi : List Addr) (hi : Hs) (ks : List Int) (S : Int → Bool), Psts X.K B α H αi H' hi [] [] [] ∧ H' D = some (SetO X.w D S (met ks).length) ∧ (∀ j, S j = decide (j ∈ met ks)) ∧ D ∉ αi ∧ Step α1 H1 αi H' ∧ cloop (mItem t (own.map (·.2)) mt me env) iv m i (ks.map fun k => PV.d (.int k)) hi = some (zs, h')
      refine ⟨St, ⟨iv.fuel h1, α1, h1, [], fun _ => false, ?_, upd_same, fun j => rfl, oD, Step.fresh nD, ec⟩, ?_⟩
      · have p0 : Psts X.K B α H α1 H1 h1 [] [] [] := ⟨s1, g1, .nil, List.nodup_nil, fun _ z => absurd z List.not_mem_nil, fun _ z => absurd z List.not_mem_nil⟩
        exact p0.fresh nD
      · rintro i m H' ⟨αi, hi, ks, S, P, hD, hS, oi, T, ce⟩
        have wi := wk αi H' hi T P.good i
        have kl := pre ce
        have ml := met_len (ns := ks)
        have stop : iv.at hi i = some none → zs = (ks.map fun k => PV.d (.int k)) → h' = hi → J.stop i H' ∧ lenQ X.w Q (.ref D) H' := fun ea e1 e2 => by
          subst e2
          refine ⟨wi.1 ea, D, S, (met ks).length, rfl, hD, by omega, ?_⟩
          have : ns = ks := by
            rw [zn] at e1
            exact (List.map_inj_right fun a b e => by cases e; rfl).mp e1
          subst this
          exact q _ _ _ _ (P.to (PR.d (.int _)).ones (List.nil_sublist _))
        cases m with
        | zero =>
          unfold cloop at ce
          split at ce
          · rename_i ea
            cases ce
            exact .inl (stop ea rfl rfl)
          · cases ce
        | succ m =>
          unfold cloop at ce
          split at ce
          · rename_i ea
            cases ce
            exact .inl (stop ea rfl rfl)
          · rename_i x ea
            refine .inr ⟨(wi.2 x ea).1, St (i + 1) m, fun H'' n => ⟨m, Nat.lt_succ_self m, n⟩, fun v H2 yl => ?_⟩
            obtain ⟨kp, rx⟩ := (wi.2 x ea).2 v H2 yl
            have st2 : Step αi H' αi H2 := Step.of_kept kp
            have g2 := P.good.mono kp
            have P2 := P.later st2 g2
            have S2 := T.trans st2
            have hD2 : H2 D = some (SetO X.w D S (met ks).length) := kp.keep _ _ hD fun z => z
            split at ce
            · rename_i y h3 eo
              obtain ⟨env1, h2, eb, eo⟩ := bnd_some eo
              obtain ⟨b, h4, et, eo⟩ := bnd_some eo
              cases b with
              | false => cases eo
              | true =>
                obtain ⟨y1, h5, ey, eo⟩ := bnd_some eo
                obtain ⟨en2, rfl⟩ := ret_some eo
                cases en2
                split at ce
                · rename_i hz
                  obtain ⟨ws, ew⟩ := cloop_pre ce
                  have hy : y ∈ zs := by
                    rw [ew]
                    exact List.mem_append_left _ (List.mem_append_right _ List.mem_cons_self)
                  rw [zn] at hy
                  obtain ⟨k, _, rfl⟩ := List.mem_map.mp hy
                  have er2 : EnvR X.K αi H2 (wipeE env (own.map (·.2))) (L2.wipe σ (own.map (·.2))) := (er.later g P2.step).wipe _
                  refine ⟨αi, H2, αi, hi, _, x, [], env1, h2, ⟨.refl, g2, rx.ones, List.nodup_nil, fun _ z => absurd z List.not_mem_nil, fun _ z => absurd z List.not_mem_nil⟩, er2, eb, fun α3 σ3 s3 g3 er3 sb3 _ => ?_⟩
                  refine ⟨(wipe_eq sb3.1 fun i hi => sb3.2 i fun z => hi (hsl i z)).trans wipe_wipe, env1, α3, h2, true, h4, g3, er3, et, fun α4 H4 s4 g4 => iteT ?_⟩
                  refine ⟨env1, α4, h4, _, h3, g4, er3.later g3 s4, ey, fun α5 H5 w M p5 => ?_⟩
                  have r5 := p5.one
                  cases r5 with
                  | d hdr =>
                    cases hdr
                    have sx := (s3.trans s4).trans p5.step
                    have hD5 : H5 D = some (SetO X.w D S (met ks).length) := sx.keep _ _ hD2 oi
                    have oD5 : D ∉ α5 := sx.out oi hD2
                    have P5 : Psts X.K B α H α5 H5 h3 [] [] [] := P2.later sx p5.good
                    refine ⟨D, k, S, (met ks).length, rfl, rfl, hD5, by unfold scanBound; omega, ?_⟩
                    have kD : ∀ u : HO, Kept (· = D) H5 (upd H5 D u) := fun u => ⟨fun b hb => by subst hb; exact ⟨_, hD5, True.intro⟩, fun b o q hb => by rw [upd_ne hb]; exact q⟩
                    have sz2 : (if S k = true then (met ks).length else (met ks).length + 1) = (met (ks ++ [k])).length := by
                      rw [met_snoc, hS k]
                      by_cases h : k ∈ met ks
                      · simp [h]
                      · simp [h]
                    have mem2 : ∀ j, (S j || decide (j = k)) = decide (j ∈ met (ks ++ [k])) := fun j => by
                      rw [hS j, met_snoc]
                      by_cases h : k ∈ met ks
                      · rw [if_pos h]
                        by_cases e : j = k
                        · subst e; simp [h]
                        · simp [e]
                      · rw [if_neg h]
                        by_cases e : j = k
                        · subst e; simp
                        · simp [e]
                    refine ⟨α5, h3, ks ++ [k], fun j => S j || decide (j = k), ⟨P5.step.upd_new n0, P5.good.side (kD _) oD5, .nil, List.nodup_nil, fun _ z => absurd z List.not_mem_nil, fun _ z => absurd z List.not_mem_nil⟩, ?_, mem2, oD5, (S2.trans sx).upd_new nD, ?_⟩
                    · rw [upd_same, sz2]
                    · rw [List.map_append]
                      exact ce
                · cases ce
            · rename_i h3 eo
              obtain ⟨env1, h2, eb, eo⟩ := bnd_some eo
              obtain ⟨b, h4, et, eo⟩ := bnd_some eo
              cases b with
              | true =>
                obtain ⟨y1, h5, ey, eo⟩ := bnd_some eo
                obtain ⟨en2, _⟩ := ret_some eo
                cases en2
              | false =>
                obtain ⟨_, rfl⟩ := ret_some eo
                have er2 : EnvR X.K αi H2 (wipeE env (own.map (·.2))) (L2.wipe σ (own.map (·.2))) := (er.later g P2.step).wipe _
                refine ⟨αi, H2, αi, hi, _, x, [], env1, h2, ⟨.refl, g2, rx.ones, List.nodup_nil, fun _ z => absurd z List.not_mem_nil, fun _ z => absurd z List.not_mem_nil⟩, er2, eb, fun α3 σ3 s3 g3 er3 sb3 _ => ?_⟩
                refine ⟨(wipe_eq sb3.1 fun i hi => sb3.2 i fun z => hi (hsl i z)).trans wipe_wipe, env1, α3, h2, false, h3, g3, er3, et, fun α4 H4 s4 g4 => iteF ?_⟩
                have sx := s3.trans s4
                exact ⟨α4, h3, ks, S, P2.later sx g4, sx.keep _ _ hD2 oi, hS, sx.out oi hD2, S2.trans sx, ce⟩
            · cases ce
          · cases ce
    · cases e
  · cases e
theorem e_lsc {p cpos : Pos} (hc : X.calm = true) (hgl : Gl X "len") (hm : X.mg "len" = none) (hN : X.N.Nodup) (hi : PI X tg iter (tIt X.K B mi)) (ok : BlkOk X.N X.env.scope scope own) (hsl : ∀ i ∈ t.slots, i ∈ own.map (·.2))
    (hg : ∀ (s : Shared) (H : Hp) (C : Addr) (cl : List (Str × Addr)) (fp : List Addr), PG (X.blk s H scope (compEnvC scope cl C X.env) fp) tg (tT X.K B t)) (ht : ∀ (s : Shared) (H : Hp) (C : Addr) (cl : List (Str × Addr)) (fp : List Addr), PTs (X.blk s H scope (compEnvC scope cl C X.env) fp) ifs (tMB X.K B mt))
    (he : ∀ (s : Shared) (H : Hp) (C : Addr) (cl : List (Str × Addr)) (fp : List Addr), PE (X.blk s H scope (compEnvC scope cl C X.env) fp) elt (tM X.K B me)) (hs : ∀ x, foldedSetIterable iter X.env x = pure x) :
    PE X (.Call (.Name "len" p) [.SetComp elt [⟨tg, iter, ifs, 0⟩] scope cpos] [] pos) (tM X.K B (mLsc mi t (own.map (·.2)) mt me)) :=
  peI (pe_lenO hc hgl hm (pe_si hc hN hi ok hg ht he hs) rfl) fun σ H Q tt => lsc_read hsl tt
end
end Pe
/-! Pe: loops, pairs stored at once, a frame's end. -/
namespace Pe
open PySem PySem.Spec PyProof.Rows L2 RZ

section
variable {X : Cx} {K : PySem.W.Frag} {B : List Nat} {fb : Nat} {sts : List Stmt} {mb : Env → M Fl} {a b c tg iter : Expr} {ma mc mx : Env → M PV} {pos : Pos} {t : T} {mi : Env → M ItV}
theorem s_for (hp : PassesOwn (model X.prog X.w) X.A X.env X.xe) (hc : X.calm = true) (hi : PI X tg iter (tIt K B mi)) (hg : PG X tg (tT K B t)) (hb : PSs X sts (tS K B mb)) (hs : ∀ x, foldedSetIterable iter X.env x = pure x) :
    PS X (.For tg iter sts [] pos) (tS K B fun env => M.bnd (mi env) fun iv => fun h => floop t mb iv (iv.fuel h) 0 env h) :=
  psI (ps_for hp hc hi hg hb hs) fun D σ H ⟨env, α, h, f, h', g, er, e, k⟩ => by
    obtain ⟨iv, h1, e1, e⟩ := bnd_some e
    refine ⟨env, α, h, iv, h1, g, er, e1, fun α1 H1 J s1 g1 wk => ?_⟩
    refine ⟨fun i m σ' H' => ∃ αi hi envi, Step α1 H1 αi H' ∧ Good K B αi hi H' ∧ EnvR K αi H' envi σ' ∧ floop t mb iv m i envi hi = some (f, h'), ⟨iv.fuel h1, α1, h1, env, .refl, g1, er.later g s1, e⟩, ?_⟩
    rintro i m σ' H' ⟨αi, hi, envi, S, gi, eri, fe⟩
    have wi := wk αi H' hi S gi i
    have stop : iv.at hi i = some none → f = .nx envi → h' = hi → J.stop i H' ∧ D.nx σ' H' := fun ea e1 e2 => by
      subst e1 e2
      exact ⟨wi.1 ea, k αi H' σ' (s1.trans S) gi eri⟩
    cases m with
    | zero =>
      unfold floop at fe
      split at fe
      · rename_i ea
        cases fe
        exact .inl (stop ea rfl rfl)
      · cases fe
    | succ m =>
      unfold floop at fe
      split at fe
      · rename_i ea
        cases fe
        exact .inl (stop ea rfl rfl)
      · rename_i x ea
        refine .inr ⟨(wi.2 x ea).1, fun σ'' H'' => ∃ αi hi envi, Step α1 H1 αi H'' ∧ Good K B αi hi H'' ∧ EnvR K αi H'' envi σ'' ∧ floop t mb iv m (i + 1) envi hi = some (f, h'), fun σ'' H'' n => ⟨m, Nat.lt_succ_self m, n⟩, fun v H2 yl => ?_⟩
        obtain ⟨kp, rx⟩ := (wi.2 x ea).2 v H2 yl
        have st2 : Step αi H' αi H2 := Step.of_kept kp
        have g2 := gi.mono kp
        have S2 := S.trans st2
        have go : ∀ f2 h3, M.bnd (bindT t x envi) mb hi = some (f2, h3) → (∀ env1 α3 h2, Step α1 H1 α3 H2 → Good K B α3 h2 H2 → mb env1 h2 = some (f2, h3) → FlOk K B α3 H2 f2 h3 { D with nx := fun σ'' H'' => ∃ αi hi envi, Step α1 H1 αi H'' ∧ Good K B αi hi H'' ∧ EnvR K αi H'' envi σ'' ∧ floop t mb iv m (i + 1) envi hi = some (f, h'), ct := fun σ'' H'' => ∃ αi hi envi, Step α1 H1 αi H'' ∧ Good K B αi hi H'' ∧ EnvR K αi H'' envi σ'' ∧ floop t mb iv m (i + 1) envi hi = some (f, h'), bk := D.nx }) → tT K B t v σ' H2 fun σ2 H3 => tS K B mb { D with nx := fun σ'' H'' => ∃ αi hi envi, Step α1 H1 αi H'' ∧ Good K B αi hi H'' ∧ EnvR K αi H'' envi σ'' ∧ floop t mb iv m (i + 1) envi hi = some (f, h'), ct := fun σ'' H'' => ∃ αi hi envi, Step α1 H1 αi H'' ∧ Good K B αi hi H'' ∧ EnvR K αi H'' envi σ'' ∧ floop t mb iv m (i + 1) envi hi = some (f, h'), bk := D.nx } σ2 H3 := fun f2 h3 eb q => by
          obtain ⟨env1, h2, e3, e4⟩ := bnd_some eb
          refine ⟨αi, H2, αi, hi, envi, x, [], env1, h2, ⟨.refl, g2, rx.ones, List.nodup_nil, fun _ z => absurd z List.not_mem_nil, fun _ z => absurd z List.not_mem_nil⟩, eri.later gi st2, e3, fun α3 σ3 s3 g3 er3 _ _ => ?_⟩
          exact ⟨env1, α3, h2, f2, h3, g3, er3, e4, q env1 α3 h2 (S2.trans s3) g3 e4⟩
        split at fe
        · rename_i e5 h3 eb
          exact go _ _ eb fun env1 α3 h2 s3 g3 _ => fun α4 H4 σ4 s4 g4 er4 => ⟨α4, h3, e5, s3.trans s4, g4, er4, fe⟩
        · rename_i e5 h3 eb
          exact go _ _ eb fun env1 α3 h2 s3 g3 _ => fun α4 H4 σ4 s4 g4 er4 => ⟨α4, h3, e5, s3.trans s4, g4, er4, fe⟩
        · rename_i e5 h3 eb
          cases fe
          exact go _ _ eb fun env1 α3 h2 s3 g3 _ => fun α4 H4 σ4 s4 g4 er4 => k α4 H4 σ4 (s1.trans (s3.trans s4)) g4 er4
        · rename_i v5 h3 eb
          cases fe
          exact go _ _ eb fun env1 α3 h2 s3 g3 _ => fun α4 H4 v4 L4 p4 => k α4 H4 v4 L4 (p4.base (s1.trans s3))
        · cases fe
      · cases fe
theorem s_wh {n : Nat} (hp : PassesOwn (model X.prog X.w) X.A X.env X.xe) (hc : PT X c (tMB K B (mB mc))) (hb : PSs X sts (tS K B mb)) : PS X (.While c sts [] pos) (tS K B fun env => wloop (mB mc) mb n env) :=
  psI (ps_while hp hc hb) fun D σ H ⟨env, α, h, f, h', g, er, e, k⟩ => by
    refine ⟨fun m σ' H' => ∃ αi hi envi, Step α H αi H' ∧ Good K B αi hi H' ∧ EnvR K αi H' envi σ' ∧ wloop (mB mc) mb m envi hi = some (f, h'), ⟨n, α, h, env, .refl, g, er, e⟩, ?_⟩
    rintro m σ' H' ⟨αi, hi, envi, S, gi, eri, we⟩
    cases m with
    | zero => cases we
    | succ m =>
      have we' : M.bnd (mB mc envi) (fun b => if b then M.bnd (mb envi) fun f => match f with
        | .nx e => wloop (mB mc) mb m e
        | .ct e => wloop (mB mc) mb m e
        | .bk e => M.ret (.nx e)
        | .rt v => M.ret (.rt v) else M.ret (.nx envi)) hi = some (f, h') := we
      obtain ⟨b, h2, e1, e2⟩ := bnd_some we'
      refine ⟨envi, αi, hi, b, h2, gi, eri, e1, fun α1 H1 s1 g1 => ?_⟩
      cases b with
      | false =>
        obtain ⟨rfl, rfl⟩ := ret_some e2
        exact iteF (k α1 H1 σ' (S.trans s1) g1 (eri.later gi s1))
      | true =>
        obtain ⟨f2, h3, e3, e4⟩ := bnd_some e2
        refine iteT ⟨fun σ'' H'' => ∃ αi hi envi, Step α H αi H'' ∧ Good K B αi hi H'' ∧ EnvR K αi H'' envi σ'' ∧ wloop (mB mc) mb m envi hi = some (f, h'), fun σ'' H'' n => ⟨m, Nat.lt_succ_self m, n⟩, envi, α1, h2, f2, h3, g1, eri.later gi s1, e3, ?_⟩
        cases f2 with
        | nx e5 => exact fun α4 H4 σ4 s4 g4 er4 => ⟨α4, h3, e5, (S.trans s1).trans s4, g4, er4, e4⟩
        | ct e5 => exact fun α4 H4 σ4 s4 g4 er4 => ⟨α4, h3, e5, (S.trans s1).trans s4, g4, er4, e4⟩
        | bk e5 =>
          obtain ⟨rfl, rfl⟩ := ret_some e4
          exact fun α4 H4 σ4 s4 g4 er4 => k α4 H4 σ4 ((S.trans s1).trans s4) g4 er4
        | rt v5 =>
          obtain ⟨rfl, rfl⟩ := ret_some e4
          exact fun α4 H4 v4 L4 p4 => k α4 H4 v4 L4 (p4.base (S.trans s1))
theorem s_par {i j : Nat} {x y : Str} {px py pt : Pos} {kt k2 : Nat} {pt2 : Pos} (hc : X.calm = true) (hN : X.N.Nodup) (hi : X.N[i]? = some x) (hj : X.N[j]? = some y) (hij : i ≠ j) (hx : X.env.scope.names.lookup x = some .local) (hy : X.env.scope.names.lookup y = some .local)
    (ha : PA X [a, b] (tMs X.K B (mArg2 ma mx))) (hw : swappedStores [.Tuple [.Name x px, .Name y py] kt pt] (.Tuple [a, b] k2 pt2) X.env = pure (some [x, y])) (hs : swapsWithSole [.Tuple [.Name x px, .Name y py] kt pt] (.Tuple [a, b] k2 pt2) pos.line X.env = pure false) :
    PS X (.Assign [.Tuple [.Name x px, .Name y py] kt pt] (.Tuple [a, b] k2 pt2) pos) (tS X.K B fun env => M.bnd (ma env) fun x => M.bnd (mx env) fun y => M.bnd (bindT (.nm j) y env) fun e1 => M.bnd (bindT (.nm i) x e1) fun e2 => M.ret (.nx e2)) :=
  psI (ps_par hc hN hi hj hij hx hy ha hw hs) fun D σ H ⟨env, α, h, f, h', g, er, e, k⟩ => by
    obtain ⟨v, h1, e1, e⟩ := bnd_some e
    obtain ⟨w, h2, e2, e⟩ := bnd_some e
    obtain ⟨env1, h3, e3, e⟩ := bnd_some e
    obtain ⟨env2, h4, e4, e5⟩ := bnd_some e
    obtain ⟨rfl, rfl⟩ := ret_some e5
    refine ⟨env, α, h, [v, w], h2, g, er, arg2_eq e1 e2, fun α1 H1 vs L p => ?_⟩
    obtain ⟨vv, vw, L1, L2, rfl, rfl, r1, r2⟩ := p.rel.two
    obtain ⟨d1, d2, d3⟩ := List.nodup_append.mp p.nd
    unfold bindT at e3 e4
    split at e3
    · cases e3
      split at e4
      · cases e4
        obtain ⟨α2, p2, ix2, m2⟩ := (p.to r2.ones (List.sublist_append_right _ _)).conv
        have p3 : Psts X.K B α H α2 H1 (conv w h2).2 [v] [vv] L1 := ⟨p2.step, p2.good, r1.ones.same ix2, d1, fun a ha z => by
          rcases m2 a z with z | z
          · exact p.out a (List.mem_append_left _ ha) z
          · exact d3 a ha a z rfl, fun a ha => p.fr a (List.mem_append_left _ ha)⟩
        obtain ⟨α3, p4, ix3, _⟩ := p3.conv
        refine ⟨vv, vw, rfl, ?_⟩
        have er1 := (((er.later g p.step).same ix2).set (i := j) p2.one).same ix3
        rw [show (σ.set i (some vv)).set j (some vw) = (σ.set j (some vw)).set i (some vv) from List.set_comm _ _ hij]
        exact k α3 H1 _ p4.step p4.good (er1.set p4.one)
      · cases e4
    · cases e3

/-! ### a frame's end -/
theorem convs_pre : ∀ (xs : List PV) (h : Hs), ∃ e, (convs xs h).2 = h ++ e := by
  have key : ∀ (n : Nat), (∀ (v : PV) (h : Hs), sizeOf v ≤ n → ∃ e, (conv v h).2 = h ++ e) ∧ ∀ (xs : List PV) (h : Hs), sizeOf xs ≤ n → ∃ e, (convs xs h).2 = h ++ e := by
    intro n
    induction n with
    | zero =>
      refine ⟨fun v h z => ?_, fun xs h z => ?_⟩
      · cases v <;> simp at z
      · cases xs <;> simp at z
    | succ n ih =>
      refine ⟨fun v h z => ?_, fun xs h z => ?_⟩
      · cases v with
        | d x => exact ⟨[], (List.append_nil h).symm⟩
        | fl x => exact ⟨[], (List.append_nil h).symm⟩
        | ref m => exact ⟨[], (List.append_nil h).symm⟩
        | rg m => exact ⟨[], (List.append_nil h).symm⟩
        | fd m => exact ⟨[], (List.append_nil h).symm⟩
        | tl xs =>
          obtain ⟨e, q⟩ := ih.2 xs h (by simp at z; omega)
          exact ⟨e ++ [.lst (convs xs h).1], by show (convs xs h).2 ++ _ = _; rw [q, List.append_assoc]⟩
        | mt xs =>
          obtain ⟨e, q⟩ := ih.2 xs h (by simp at z; omega)
          exact ⟨e, q⟩
      · cases xs with
        | nil => exact ⟨[], (List.append_nil h).symm⟩
        | cons x xs =>
          obtain ⟨e1, q1⟩ := ih.1 x h (by simp at z; omega)
          obtain ⟨e2, q2⟩ := ih.2 xs (conv x h).2 (by simp at z; omega)
          exact ⟨e1 ++ e2, by show (convs xs (conv x h).2).2 = _; rw [q2, q1, List.append_assoc]⟩
  exact fun xs h => (key (sizeOf xs)).2 xs h (Nat.le_refl _)
end
theorem nodup_map_on {f : Nat → Addr} : ∀ {l : List Nat}, l.Nodup → (∀ x ∈ l, ∀ y ∈ l, f x = f y → x = y) → (l.map f).Nodup
  | [], _, _ => List.nodup_nil
  | x :: l, nd, inj => by
    obtain ⟨n1, n2⟩ := List.nodup_cons.mp nd
    rw [List.map_cons, List.nodup_cons]
    refine ⟨fun z => ?_, nodup_map_on n2 fun a ha b hb => inj a (List.mem_cons_of_mem _ ha) b (List.mem_cons_of_mem _ hb)⟩
    obtain ⟨y, hy, e⟩ := List.mem_map.mp z
    have := inj y (List.mem_cons_of_mem _ hy) x List.mem_cons_self e
    rw [this] at hy
    exact n1 hy
/-- a value that leaves -/
def cellAt (α : List Addr) (n : Nat) : Addr := α.getD n 0
mutual
theorem mapRef_ok {K : PySem.W.Frag} {α β : List Addr} {H : Hp} {g : Nat → Option (PV × List Nat)} (hg : ∀ n v' used a, g n = some (v', used) → α[n]? = some a → ∃ M, PR K β H v' (.ref a) M ∧ M.Perm (used.map (cellAt α))) :
    ∀ (v : PV) (u : V) (L : List Addr) (v' : PV) (used : List Nat), PR K α H v u L → mapRef g v = some (v', used) → ∃ M, PR K β H v' u M ∧ M.Perm (L ++ used.map (cellAt α))
  | .d x, _, _, _, _, r, e => by
    cases e
    cases r with
    | d r => exact ⟨[], .d r, List.Perm.refl _⟩
  | .fl x, _, _, _, _, r, e => by
    cases e
    cases r with
    | fl h z r => exact ⟨[], .fl h z r, List.Perm.refl _⟩
  | .ref n, _, _, _, _, r, e => by
    cases r with
    | ref h => exact hg n _ _ _ e h
  | .rg n, _, _, _, _, r, e => by
    cases e
    cases r with
    | rg h b e => exact ⟨[], .rg h b e, List.Perm.refl _⟩
  | .fd n, _, _, _, _, r, e => by
    cases e
    cases r with
    | fd h r => exact ⟨[], .fd h r, List.Perm.refl _⟩
  | .tl xs, _, _, _, _, r, e => by
    have e' : (match mapRefs g xs with
      | some (ys, l) => some (PV.tl ys, l)
      | none => none) = some (_, _) := e
    cases q : mapRefs g xs with
    | none => rw [q] at e'; cases e'
    | some yl =>
      obtain ⟨ys, l⟩ := yl
      rw [q] at e'
      cases e'
      cases r with
      | tl h z r =>
        obtain ⟨M, r2, pm⟩ := mapRefs_ok hg xs _ _ ys _ r q
        exact ⟨_ :: M, .tl h (by rw [r2.length, ← r.length]; exact z) r2, List.Perm.cons _ pm⟩
  | .mt xs, _, _, _, _, r, e => by
    have e' : (match mapRefs g xs with
      | some (ys, l) => some (PV.mt ys, l)
      | none => none) = some (_, _) := e
    cases q : mapRefs g xs with
    | none => rw [q] at e'; cases e'
    | some yl =>
      obtain ⟨ys, l⟩ := yl
      rw [q] at e'
      cases e'
      cases r with
      | mt h z r =>
        obtain ⟨M, r2, pm⟩ := mapRefs_ok hg xs _ _ ys _ r q
        exact ⟨M, .mt h (by rw [r2.length, ← r.length]; exact z) r2, pm⟩
theorem mapRefs_ok {K : PySem.W.Frag} {α β : List Addr} {H : Hp} {g : Nat → Option (PV × List Nat)} (hg : ∀ n v' used a, g n = some (v', used) → α[n]? = some a → ∃ M, PR K β H v' (.ref a) M ∧ M.Perm (used.map (cellAt α))) :
    ∀ (xs : List PV) (us : List V) (L : List Addr) (ys : List PV) (used : List Nat), PRs K α H xs us L → mapRefs g xs = some (ys, used) → ∃ M, PRs K β H ys us M ∧ M.Perm (L ++ used.map (cellAt α))
  | [], _, _, _, _, r, e => by
    cases e
    cases r
    exact ⟨[], .nil, List.Perm.refl _⟩
  | x :: xs, _, _, _, _, r, e => by
    have e' : (match mapRef g x, mapRefs g xs with
      | some (y, l), some (ys, l2) => some (y :: ys, l ++ l2)
      | _, _ => none) = some (_, _) := e
    cases q : mapRef g x with
    | none => rw [q] at e'; cases e'
    | some yl =>
      cases q2 : mapRefs g xs with
      | none => rw [q, q2] at e'; cases e'
      | some yl2 =>
        obtain ⟨y, l⟩ := yl
        obtain ⟨ys, l2⟩ := yl2
        rw [q, q2] at e'
        cases e'
        cases r with
        | @cons _ _ _ _ L1 L2 r t =>
          obtain ⟨M1, r1, p1⟩ := mapRef_ok hg x _ _ y l r q
          obtain ⟨M2, r2, p2⟩ := mapRefs_ok hg xs _ _ ys l2 t q2
          refine ⟨M1 ++ M2, .cons r1 r2, ?_⟩
          rw [List.map_append]
          have h1 : (M1 ++ M2).Perm ((L1 ++ l.map (cellAt α)) ++ (L2 ++ l2.map (cellAt α))) := p1.append p2
          refine h1.trans ?_
          rw [List.append_assoc, List.append_assoc]
          refine List.Perm.append_left _ ?_
          rw [← List.append_assoc, ← List.append_assoc]
          exact List.Perm.append_right _ List.perm_append_comm
end
theorem resR_ok {K : PySem.W.Frag} {B : List Nat} {α : List Addr} {h : Hs} {H : Hp} {fb : Nat} (g : Good K B α h H) : ∀ (k n : Nat) (v' : PV) (used : List Nat) (a : Addr), resR fb h k n = some (v', used) → α[n]? = some a → ∃ M, PR K (α.take fb) H v' (.ref a) M ∧ M.Perm (used.map (cellAt α)) := by
  intro k
  induction k with
  | zero =>
    intro n v' used a e ea
    unfold resR at e
    split at e
    · rename_i hn
      cases e
      exact ⟨[], .ref (by rw [List.getElem?_take_of_lt hn]; exact ea), List.Perm.refl _⟩
    · cases e
  | succ k ih =>
    intro n v' used a e ea
    unfold resR at e
    split at e
    · rename_i hn
      cases e
      exact ⟨[], .ref (by rw [List.getElem?_take_of_lt hn]; exact ea), List.Perm.refl _⟩
    · split at e
      · rename_i xs e1
        split at e
        · rename_i ys l e2
          cases e
          obtain ⟨vs, ha, z, r⟩ := g.cell n xs a e1 ea
          obtain ⟨M, r2, pm⟩ := mapRefs_ok (fun n v' used a => ih n v' used a) xs vs [] ys l r e2
          refine ⟨a :: M, .tl ha (by rw [r2.length, ← r.length]; exact z) r2, ?_⟩
          have : cellAt α n = a := by
            unfold cellAt
            rw [List.getD_eq_getElem?_getD, ea]
            rfl
          rw [List.map_cons, this]
          exact List.Perm.cons _ pm
        · cases e
      · cases e
theorem mapRef_all {P : Nat → Prop} {g : Nat → Option (PV × List Nat)} (hg : ∀ n v' used, g n = some (v', used) → ∀ m ∈ used, P m) : ∀ (s : Nat), (∀ (v : PV) v' used, sizeOf v ≤ s → mapRef g v = some (v', used) → ∀ m ∈ used, P m) ∧ ∀ (xs : List PV) ys used, sizeOf xs ≤ s → mapRefs g xs = some (ys, used) → ∀ m ∈ used, P m := by
  intro s
  induction s with
  | zero =>
    refine ⟨fun v _ _ z => ?_, fun xs _ _ z => ?_⟩
    · cases v <;> simp at z
    · cases xs <;> simp at z
  | succ s ih =>
    refine ⟨fun v v' used z e => ?_, fun xs ys used z e => ?_⟩
    · cases v with
      | d x => cases e; exact fun _ q => absurd q List.not_mem_nil
      | fl x => cases e; exact fun _ q => absurd q List.not_mem_nil
      | ref n => exact hg n _ _ e
      | rg n => cases e; exact fun _ q => absurd q List.not_mem_nil
      | fd n => cases e; exact fun _ q => absurd q List.not_mem_nil
      | tl xs =>
        have e' : (match mapRefs g xs with
          | some (ys, l) => some (PV.tl ys, l)
          | none => none) = some (v', used) := e
        cases q : mapRefs g xs with
        | none => rw [q] at e'; cases e'
        | some yl =>
          rw [q] at e'
          cases e'
          exact ih.2 xs _ _ (by simp at z; omega) q
      | mt xs =>
        have e' : (match mapRefs g xs with
          | some (ys, l) => some (PV.mt ys, l)
          | none => none) = some (v', used) := e
        cases q : mapRefs g xs with
        | none => rw [q] at e'; cases e'
        | some yl =>
          rw [q] at e'
          cases e'
          exact ih.2 xs _ _ (by simp at z; omega) q
    · cases xs with
      | nil => cases e; exact fun _ q => absurd q List.not_mem_nil
      | cons x xs =>
        have e' : (match mapRef g x, mapRefs g xs with
          | some (y, l), some (ys, l2) => some (y :: ys, l ++ l2)
          | _, _ => none) = some (ys, used) := e
        cases q : mapRef g x with
        | none => rw [q] at e'; cases e'
        | some yl =>
          cases q2 : mapRefs g xs with
          | none => rw [q, q2] at e'; cases e'
          | some yl2 =>
            rw [q, q2] at e'
            cases e'
            intro m hm
            rcases List.mem_append.mp hm with w | w
            · exact ih.1 x _ _ (by simp at z; omega) q m w
            · exact ih.2 xs _ _ (by simp at z; omega) q2 m w
theorem resR_ge {fb : Nat} {h : Hs} : ∀ (k n : Nat) (v' : PV) (used : List Nat), resR fb h k n = some (v', used) → ∀ m ∈ used, fb ≤ m ∧ m < h.length := by
  intro k
  induction k with
  | zero =>
    intro n v' used e
    unfold resR at e
    split at e
    · cases e; exact fun _ q => absurd q List.not_mem_nil
    · cases e
  | succ k ih =>
    intro n v' used e
    unfold resR at e
    split at e
    · cases e; exact fun _ q => absurd q List.not_mem_nil
    · rename_i hn
      split at e
      · rename_i xs e1
        split at e
        · rename_i ys l e2
          cases e
          intro m hm
          rcases List.mem_cons.mp hm with w | w
          · rw [w]
            exact ⟨Nat.le_of_not_lt hn, (List.getElem?_eq_some_iff.mp e1).1⟩
          · exact (mapRef_all (fun n v' used => ih n v' used) (sizeOf xs)).2 xs ys l (Nat.le_refl _) e2 m w
        · cases e
      · cases e
theorem mapRef_ge {fb : Nat} {h : Hs} {v v' : PV} {used : List Nat} (e : mapRef (resR fb h 4) v = some (v', used)) : ∀ m ∈ used, fb ≤ m ∧ m < h.length :=
  (mapRef_all (resR_ge 4) (sizeOf v)).1 v v' used (Nat.le_refl _) e
/-- the end of a frame that began at fb cells -/
theorem leave_ok {K : PySem.W.Frag} {B : List Nat} {α0 α α2 : List Addr} {H0 H2 : Hp} {h h2 h' : Hs} {v z : PV} {w : V} {L : List Addr} (len : α.length = h.length) (sub : ∃ γ, α2 = α ++ γ) (s0 : ∃ β, α = α0 ++ β) (hB : ∀ b ∈ B, b ≤ h.length)
    (p : Psts K (h.length :: B) α0 H0 α2 H2 h2 [v] [w] L) (e : leave h.length v h2 = some (z, h')) : ∃ M, Psts K B α0 H0 α H2 h' [z] [w] M := by
  unfold leave at e
  split at e
  · rename_i v' used e1
    split at e
    · rename_i nd
      cases e
      obtain ⟨γ, e2⟩ := sub
      obtain ⟨β, e0⟩ := s0
      have et : α2.take h.length = α := by rw [e2, ← len, List.take_left']; rfl
      obtain ⟨M, r, pm⟩ := mapRef_ok (fun n v' used a => resR_ok (fb := h.length) p.good 4 n v' used a) v w L _ used p.one e1
      rw [et] at r
      have hl2 : h.length ≤ h2.length := (p.good.wf _ List.mem_cons_self).1
      have hu : ∀ m ∈ used, h.length ≤ m ∧ m < α2.length := fun m hm => by
        have := mapRef_ge e1 m hm
        rw [p.good.len]
        exact this
      have at2 : ∀ m ∈ used, ∃ a, α2[m]? = some a ∧ cellAt α2 m = a := fun m hm => by
        have q := List.getElem?_eq_getElem (hu m hm).2
        refine ⟨_, q, ?_⟩
        unfold cellAt
        rw [List.getD_eq_getElem?_getD, q]
        rfl
      have notin : ∀ m ∈ used, cellAt α2 m ∉ α := fun m hm z => by
        obtain ⟨a, q, ea⟩ := at2 m hm
        rw [ea] at z
        obtain ⟨n, hn, en⟩ := List.getElem_of_mem z
        have q2 : α2[n]? = some a := by rw [e2, List.getElem?_append_left hn, List.getElem?_eq_getElem hn, en]
        have h1 := List.getElem?_eq_some_iff.mp q
        have h3 := List.getElem?_eq_some_iff.mp q2
        have := (List.getElem_inj p.good.nd).mp (h1.2.trans h3.2.symm)
        have := (hu m hm).1
        omega
      refine ⟨M, ⟨⟨β, e0, fun a ha => ?_⟩, p.step.keep, p.step.there⟩, ⟨?_, ?_, fun n xs a e3 e4 => ?_, fun b hb => ⟨?_, fun n c hn e3 => ?_⟩⟩, r.ones, ?_, fun a ha => ?_, fun a ha => ?_⟩
      · obtain ⟨δ, e5, f5⟩ := p.step.pre
        have : δ = β ++ γ := by
          rw [e2, e0, List.append_assoc] at e5
          exact (List.append_cancel_left e5).symm
        exact f5 a (by rw [this]; exact List.mem_append_left _ ha)
      · rw [List.length_take, len]
        omega
      · have := p.good.nd
        rw [e2] at this
        exact (List.nodup_append.mp this).1
      · have hn : n < h.length := by
          have := (List.getElem?_eq_some_iff.mp e3).1
          rw [List.length_take] at this
          omega
        rw [List.getElem?_take_of_lt hn] at e3
        have e4' : α2[n]? = some a := by rw [e2, List.getElem?_append_left (by rw [len]; exact hn)]; exact e4
        obtain ⟨vs, q1, q2, q3⟩ := p.good.cell n xs a e3 e4'
        have lt := (p.good.wf _ List.mem_cons_self).2 n _ hn e3
        have q4 := PRs.cut _ _ _ q3 lt
        rw [et] at q4
        exact ⟨vs, q1, q2, q4⟩
      · rw [List.length_take]
        have := hB b hb
        omega
      · have hnb : n < h.length := Nat.lt_of_lt_of_le hn (hB b hb)
        rw [List.getElem?_take_of_lt hnb] at e3
        exact (p.good.wf b (List.mem_cons_of_mem _ hb)).2 n c hn e3
      · rw [pm.nodup_iff, List.nodup_append]
        refine ⟨p.nd, ?_, fun a ha b hb q => ?_⟩
        · refine nodup_map_on nd fun m hm n hn q => ?_
          obtain ⟨c, q1, e1⟩ := at2 m hm
          obtain ⟨c2, q2, e2⟩ := at2 n hn
          rw [e1, e2] at q
          subst q
          have h1 := List.getElem?_eq_some_iff.mp q1
          have h3 := List.getElem?_eq_some_iff.mp q2
          exact (List.getElem_inj p.good.nd).mp (h1.2.trans h3.2.symm)
        · subst q
          obtain ⟨m, hm, em⟩ := List.mem_map.mp hb
          obtain ⟨c, q, ec⟩ := at2 m hm
          refine p.out a ha ?_
          rw [← em, ec]
          exact List.mem_of_getElem? q
      · rcases List.mem_append.mp (pm.subset ha) with z | z
        · have := p.out a z
          rw [e2] at this
          exact fun q => this (List.mem_append_left _ q)
        · obtain ⟨m, hm, em⟩ := List.mem_map.mp z
          rw [← em]
          exact notin m hm
      · rcases List.mem_append.mp (pm.subset ha) with z | z
        · exact p.fr a z
        · obtain ⟨m, hm, em⟩ := List.mem_map.mp z
          obtain ⟨c, q, ec⟩ := at2 m hm
          rw [← em, ec]
          obtain ⟨δ, e5, f5⟩ := p.step.pre
          have hc : c ∈ α2 := List.mem_of_getElem? q
          rw [e5] at hc
          rcases List.mem_append.mp hc with y | y
          · refine absurd ?_ (notin m hm)
            rw [ec, e0]
            exact List.mem_append_left _ y
          · exact f5 c y
    · cases e
  · cases e
end Pe
/-! Pe: the own syntax is held against the program's. -/
namespace Pe
open PySem PySem.Spec PyProof.Rows L2 RZ

def visB (sc : Scope) (x : Str) : Bool := match sc.names.lookup x with
  | some .local => true
  | some .cell => true
  | some .free => true
  | _ => false
def locB (sc : Scope) (x : Str) : Bool := match sc.names.lookup x with
  | some .local => true
  | some .cell => true
  | _ => false
def isLocal (sc : Scope) (x : Str) : Bool := match sc.names.lookup x with
  | some .local => true
  | _ => false
def glB (sc : Scope) (x : Str) : Bool := match sc.names.lookup x with
  | some .globalImplicit => true
  | _ => false
def nameOk (x : Str) : Bool := !(x == ("__debug__" : Str)) && !(x == ("__classdict__" : Str)) && !(x == ("__name__" : Str))
def cstB : Const → D → Bool
  | .none, .non => true
  | .bool a, .bl b => a == b
  | .int a, .int b => decide (a = b)
  | .str a, .str b => decide (a = b)
  | _, _ => false
def Blt.nm : Blt → Str
  | .len => "len" | .tuple => "tuple" | .list => "list" | .all => "all" | .any => "any" | .sum => "sum" | .int => "int" | .abs => "abs" | .max => "max" | .min => "min" | .sorted => "sorted" | .isi _ => "isinstance"
def Ty.pyn : Ty → Str
  | .int => "int" | .bool => "bool" | .str => "str" | .tuple => "tuple" | .list => "list"
/-- all names of built-ins that the checks let by -/
def bltAll : List Str := ["len", "tuple", "list", "all", "any", "sum", "int", "abs", "isinstance", "max", "min", "sorted", "set", "bool", "str", "range", "enumerate", "zip"]
def ckTy (sc : Scope) : Expr → Ty → Bool
  | .Name x _, t => decide (x = t.pyn) && glB sc x
  | _, _ => false
def ckTys (sc : Scope) : List Expr → List Ty → Bool
  | [], [] => true
  | e :: es, t :: ts => ckTy sc e t && ckTys sc es ts
  | _, _ => false
/-- not one of the forms that the rules treat apart -/
def plainE : Expr → Bool
  | .Starred .. => false
  | .Set .. => false
  | .Slice .. => false
  | .ListComp .. => false
  | .SetComp .. => false
  | .DictComp .. => false
  | .GeneratorExp .. => false
  | _ => true
def notSet : Expr → Bool
  | .Set .. => false
  | _ => true
def noStar : Expr → Bool
  | .Starred .. => false
  | _ => true
def noCall : Expr → Bool
  | .Call _ (_ :: _) _ _ => true
  | .Call .. => false
  | _ => true
mutual
def ckT (N : List Str) (so : Scope) : Expr → T → Bool
  | .Name x _, .nm i => decide (N[i]? = some x) && locB so x
  | .Tuple es _ _, .tup ts => ckTs N so es ts
  | _, _ => false
def ckTs (N : List Str) (so : Scope) : List Expr → List T → Bool
  | [], [] => true
  | e :: es, t :: ts => noStar e && ckT N so e t && ckTs N so es ts
  | _, _ => false
end
def ownN (N : List Str) (own : List Nat) : List (Str × Nat) := own.map fun i => (N.getD i "", i)
section
variable (FT : List Fn) (N : List Str)
mutual
def ckE : Nat → Scope → Expr → E → Bool
  | 0, _, _, _ => false
  | n + 1, sc, e, e' => match e, e' with
    | .Name x _, .var i => decide (N[i]? = some x) && visB sc x && nameOk x
    | .Constant c _ _, .cst d => cstB c d
    | .BinOp a o b _, .bin o' a' b' => decide (o = o'.op) && ckE n sc a a' && ckE n sc b b'
    | .UnaryOp o a _, .un o' a' => decide (o = o'.op) && ckE n sc a a'
    | .UnaryOp .Not a _, .nt a' => ckE n sc a a'
    | .BoolOp op vs _, e' => ckV n sc op vs e'
    | .Compare a [o] [b] _, .cmp o' a' b' => decide (o = o'.op) && notSet b && ckE n sc a a' && ckE n sc b b'
    | .Compare a [o, p] [b, c] _, .chn o' p' a' b' c' => decide (o = o'.op) && decide (p = p'.op) && notSet c && ckE n sc a a' && ckE n sc b b' && ckE n sc c c'
    | .IfExp c a b _, .ifx c' a' b' => ckB n sc c c' && ckE n sc a a' && ckE n sc b b'
    | .Call (.Name x _) args [] _, .call f as => (match FT[f]? with
      | some t => decide (t.name = x)
      | none => false) && glB sc x && nameOk x && ckEs n sc args as
    | .Call (.Name x _) [a, t] [] _, .blt (.isi ts) [a'] => decide (x = "isinstance") && glB sc x && ckE n sc a a' && (match t with
      | .Tuple es _ _ => ckTys sc es ts && decide (ts.length < 100)
      | t => match ts with
        | [ty] => ckTy sc t ty
        | _ => false)
    | .Call (.Name x _) (a :: args) [] _, .blt b as => decide (x = b.nm) && !(decide (x = "isinstance")) && glB sc x && ckEs n sc (a :: args) as
    | .Call (.Attribute o m apos) args [] cpos, .mth m' o' as => decide (m = m'.nm) && noCall o && (apos.endLine == cpos.line) && decide (args.length < 20) && ckE n sc o o' && ckEs n sc args as
    | .Call (.Attribute o m apos) [a] [] cpos, .join o' a' => decide (m = "join") && noCall o && (apos.endLine == cpos.line) && noStar a && ckE n sc o o' && ckE n sc a a'
    | .Call (.Name x _) [.Call (.Name y _) [a] [] _] [] _, .lrg t a' => decide (x = if t then "tuple" else "list") && decide (y = "range") && glB sc x && glB sc y && noStar a && ckE n sc a a'
    | .Call (.Name x _) [.Call (.Name y _) [a] [] _] [] _, .sset a' => decide (x = "sorted") && decide (y = "set") && glB sc x && glB sc y && noStar a && ckE n sc a a'
    | .Call (.Name x _) [.Call (.Name y _) [a] [] _] [] _, .lset a' => decide (x = "len") && decide (y = "set") && glB sc x && glB sc y && noStar a && ckE n sc a a'
    | .Call (.Name x _) [a] [] _, .rgv a' => decide (x = "range") && glB sc x && noStar a && ckE n sc a a'
    | .Call (.Name x _) [a] [⟨some k, .Constant .none _ _, _⟩] _, .mxd mx a' => decide (x = if mx then "max" else "min") && decide (k = Str.ofString "default") && glB sc x && noStar a && ckE n sc a a'
    | .Tuple es _ _, .tup as => ckEs n sc es as
    | .List es _, .lst as => ckEs n sc es as
    | .Subscript a (.Slice none none (some (.UnaryOp .USub (.Constant (.int 1) _ _) _)) _) _, .rsl a' => ckE n sc a a'
    | .Subscript a (.Slice lo hi none _) _, .slc f1 f2 a' lo' hi' => ckE n sc a a' && ckO n sc lo f1 lo' && ckO n sc hi f2 hi'
    | .Subscript a b _, .idx a' b' => plainE b && ckE n sc a a' && ckE n sc b b'
    | .ListComp elt [⟨tg, iter, ifs, 0⟩] scope _, .comp own tg' it' hc c' elt' => blkC N sc scope (ownN N own) && ckT N scope tg tg' && (tg'.slots.all fun i => decide (i ∈ own)) && ckI n sc tg iter it' && ckE n (relS scope sc) elt elt' &&
      (match ifs, hc with
      | [], false => true
      | [c], true => ckB n (relS scope sc) c c'
      | _, _ => false)
    | .DictComp kx vx [⟨tg, iter, ifs, 0⟩] scope _, .dcomp own tg' it' hc c' k' v' => blkC N sc scope (ownN N own) && ckT N scope tg tg' && (tg'.slots.all fun i => decide (i ∈ own)) && ckI n sc tg iter it' && ckE n (relS scope sc) kx k' && ckE n (relS scope sc) vx v' &&
      (match ifs, hc with
      | [], false => true
      | [c], true => ckB n (relS scope sc) c c'
      | _, _ => false)
    | .Call (.Name x _) [.SetComp elt [⟨tg, iter, ifs, 0⟩] scope _] [] _, .lsc own tg' it' hc c' elt' => decide (x = "len") && glB sc x && blkC N sc scope (ownN N own) && ckT N scope tg tg' && (tg'.slots.all fun i => decide (i ∈ own)) && ckI n sc tg iter it' && ckE n (relS scope sc) elt elt' &&
      (match ifs, hc with
      | [], false => true
      | [c], true => ckB n (relS scope sc) c c'
      | _, _ => false)
    | .ListComp elt [⟨tg, iter, ifs, 0⟩, ⟨tg1, iter1, ifs1, 0⟩] scope _, .comp2 own tg' it' hc c' own1 tg1' it1' hc1 c1' elt' => blkC N sc scope (ownN N own) && ckT N scope tg tg' && (tg'.slots.all fun i => decide (i ∈ own)) && ckI n sc tg iter it' && ckE n (relS scope sc) elt elt' &&
      (match ifs, hc with
      | [], false => true
      | [c], true => ckB n (relS scope sc) c c'
      | _, _ => false) && ckT N scope tg1 tg1' && (tg1'.slots.all fun i => decide (i ∈ own)) && (tg1'.slots.all fun i => decide (i ∈ own1)) && (own1.all fun i => decide (i ∈ own)) && ckI n (relS scope sc) tg1 iter1 it1' &&
      (match ifs1, hc1 with
      | [], false => true
      | [c], true => ckB n (relS scope sc) c c1'
      | _, _ => false)
    | _, _ => false
/-- values of and, or -/
def ckV : Nat → Scope → BoolOp → List Expr → E → Bool
  | 0, _, _, _, _ => false
  | n + 1, sc, op, vs, e' => match vs with
    | [a] => ckE n sc a e'
    | a :: b :: r => match op, e' with
      | .And, .an a' b' => ckE n sc a a' && ckV n sc .And (b :: r) b'
      | .Or, .orr a' b' => ckE n sc a a' && ckV n sc .Or (b :: r) b'
      | _, _ => false
    | [] => false
/-- tests -/
def ckB : Nat → Scope → Expr → E → Bool
  | 0, _, _, _ => false
  | n + 1, sc, e, e' => match e with
    | .UnaryOp .Not a _ => match e' with
      | .nt a' => ckB n sc a a'
      | _ => false
    | .BoolOp op vs _ => ckW n sc op vs e'
    | .Compare a [o] [b] _ => match e' with
      | .cmp o' a' b' => decide (o = o'.op) && notSet b && ckE n sc a a' && ckE n sc b b'
      | _ => false
    | .Compare a [o, p] [b, c] _ => match e' with
      | .chn o' p' a' b' c' => decide (o = o'.op) && decide (p = p'.op) && notSet c && ckE n sc a a' && ckE n sc b b' && ckE n sc c c'
      | _ => false
    | .Name x p => ckE n sc (.Name x p) e'
    | .Constant c k p => ckE n sc (.Constant c k p) e'
    | .Call f as ks p => ckE n sc (.Call f as ks p) e'
    | .Subscript a b p => ckE n sc (.Subscript a b p) e'
    | _ => false
/-- tests of and, or -/
def ckW : Nat → Scope → BoolOp → List Expr → E → Bool
  | 0, _, _, _, _ => false
  | n + 1, sc, op, vs, e' => match vs with
    | [a] => ckB n sc a e'
    | a :: b :: r => match op, e' with
      | .And, .an a' b' => ckB n sc a a' && ckW n sc .And (b :: r) b'
      | .Or, .orr a' b' => ckB n sc a a' && ckW n sc .Or (b :: r) b'
      | _, _ => false
    | [] => false
def ckEs : Nat → Scope → List Expr → List E → Bool
  | 0, _, _, _ => false
  | n + 1, sc, es, es' => match es, es' with
    | [], [] => true
    | e :: es, e' :: es' => noStar e && ckE n sc e e' && ckEs n sc es es'
    | _, _ => false
def ckO : Nat → Scope → Option Expr → Bool → E → Bool
  | 0, _, _, _, _ => false
  | n + 1, sc, o, f, e' => match o, f with
    | none, false => true
    | some e, true => ckE n sc e e'
    | _, _ => false
def ckI : Nat → Scope → Expr → Expr → It → Bool
  | 0, _, _, _, _ => false
  | n + 1, sc, tg, e, it => match it with
    | .seq e' => (match e with
      | .Set .. => false
      | _ => true) && ckE n sc e e'
    | .rng1 a' => match e with
      | .Call (.Name x _) [a] [] _ => decide (x = "range") && glB sc x && noStar a && ckE n sc a a'
      | _ => false
    | .rng2 a' b' => match e with
      | .Call (.Name x _) [a, b] [] _ => decide (x = "range") && glB sc x && noStar a && noStar b && ckE n sc a a' && ckE n sc b b'
      | _ => false
    | .rngd a' b' => match e with
      | .Call (.Name x _) [a, b, c] [] _ => decide (x = "range") && glB sc x && noStar a && noStar b && noStar c && ckE n sc a a' && ckE n sc b b' && ckE n sc c (.un .neg (.cst (.int 1)))
      | _ => false
    | .enum a' => match tg, e with
      | .Tuple _ _ _, .Call (.Name x _) [a] [] _ => decide (x = "enumerate") && glB sc x && noStar a && ckE n sc a a'
      | _, _ => false
    | .zip a' b' => match tg, e with
      | .Tuple _ _ _, .Call (.Name x _) [a, b] [] _ => decide (x = "zip") && glB sc x && noStar a && noStar b && ckE n sc a a' && ckE n sc b b'
      | _, _ => false
end
/-- statements of a def's body -/
def swB (sc : Scope) (x : Str) (py pos : Pos) (scope : Scope) : Bool := isLocal sc x && (py.line == pos.line) && !(scope.names.any fun (n, k) => n == x && (k == .local || k == .cell))
mutual
def ckS : Nat → Scope → Stmt → S → Bool
  | 0, _, _, _ => false
  | n + 1, sc, s, s' => match s, s' with
    | .Assign [.Name x py] (.ListComp elt [⟨tg, iter, ifs, 0⟩] scope pos) _, .asg (.nm i) (.comp own tg' it' hc c' elt') => decide (N[i]? = some x) && locB sc x &&
      ckE FT N (n + 1) sc (.ListComp elt [⟨tg, iter, ifs, 0⟩] scope pos) (.comp own tg' it' hc c' elt')
    | .Assign [.Name x py] (.DictComp kx vx [⟨tg, iter, ifs, 0⟩] scope pos) _, .asg (.nm i) (.dcomp own tg' it' hc c' k' v') => decide (N[i]? = some x) && locB sc x &&
      ckE FT N (n + 1) sc (.DictComp kx vx [⟨tg, iter, ifs, 0⟩] scope pos) (.dcomp own tg' it' hc c' k' v')
    | .Assign [.Name x py] (.ListComp elt [⟨tg, iter, ifs, 0⟩, ⟨tg1, iter1, ifs1, 0⟩] scope pos) _, .asg (.nm i) (.comp2 own tg' it' hc c' own1 tg1' it1' hc1 c1' elt') => decide (N[i]? = some x) && locB sc x &&
      ckE FT N (n + 1) sc (.ListComp elt [⟨tg, iter, ifs, 0⟩, ⟨tg1, iter1, ifs1, 0⟩] scope pos) (.comp2 own tg' it' hc c' own1 tg1' it1' hc1 c1' elt')
    | .Assign [.Tuple [.Name x px, .Name y p2] kt pt] (.Tuple [a, b] k2 pt2) pos, .par i j a' b' => decide (N[i]? = some x) && decide (N[j]? = some y) && decide (i ≠ j) && isLocal sc x && isLocal sc y && (px.line == p2.line) && decide (x ≠ y) &&
      !([a, b].all (foldedForSure 8)) && !([a, b].all (constantsAlone 8)) && noStar a && noStar b && ckE FT N n sc a a' && ckE FT N n sc b b'
    | .Assign [.Subscript b c _] a _, .sub b' c' a' => plainE a && plainE c && ckE FT N n sc a a' && ckE FT N n sc b b' && ckE FT N n sc c c'
    | .Assign [tg] a _, .asg t a' => plainE a && (match a with
      | .Tuple .. => match tg with
        | .Name .. => true
        | _ => false
      | _ => true) && ckT N sc tg t && ckE FT N n sc a a'
    | .AugAssign (.Name x _) o a _, .aug i o' a' => decide (N[i]? = some x) && locB sc x && decide (o = o'.op) && (match o' with
      | .add => true
      | .sub => true
      | _ => false) && visB sc x && ckE FT N n sc a a'
    | .Expr a _, .ex a' => plainE a && ckE FT N n sc a a'
    | .Return (some a) _, .ret a' => ckE FT N n sc a a'
    | .Return none _, .retn => true
    | .If c a b _, .ife c' a' b' => ckB FT N n sc c c' && ckSs n sc a a' && ckSs n sc b b'
    | .For tg iter b [] _, .fr t it b' => ckT N sc tg t && ckI FT N n sc tg iter it && ckSs n sc b b'
    | .While c b [] _, .wh c' b' => ckB FT N n sc c c' && ckSs n sc b b'
    | .Break _, .brk => true
    | .Continue _, .cnt => true
    | .Pass _, .pas => true
    | _, _ => false
def ckSs : Nat → Scope → List Stmt → List S → Bool
  | 0, _, _, _ => false
  | n + 1, sc, ss, ss' => match ss, ss' with
    | [], [] => true
    | s :: ss, s' :: ss' => ckS n sc s s' && ckSs n sc ss ss'
    | _, _ => false
end
end
/-- a def of the table against its text -/
def ckFn (FT : List Fn) (t : Fn) (st : Stmt) : Bool :=
  (match (defScope st).kind with
  | .function => true
  | _ => false) && !(defScope st).isCoroutine && !(defScope st).isGenerator && decide t.N.Nodup && decide (t.np ≤ t.N.length) && ((t.N.take t.np).all fun x => locB (defScope st) x) && ((defScope st).names.all fun y => match y.2 with
  | .free => false
  | _ => true) && ckSs FT t.N 60 (defScope st) (defBody st) t.body
end Pe
/-! Pe: what is checked is sound. -/
namespace Pe
open PySem PySem.Spec PyProof.Rows L2 RZ

/-! ### facts of the checks -/
theorem vis_of {sc : Scope} {x : Str} (h : visB sc x = true) : Vis sc x := by
  unfold visB at h
  split at h
  · rename_i e; exact .inl e
  · rename_i e; exact .inr (.inl e)
  · rename_i e; exact .inr (.inr e)
  · cases h
theorem loc_of {sc : Scope} {x : Str} (h : locB sc x = true) : sc.names.lookup x = some .local ∨ sc.names.lookup x = some .cell := by
  unfold locB at h
  split at h
  · rename_i e; exact .inl e
  · rename_i e; exact .inr e
  · cases h
theorem local_of {sc : Scope} {x : Str} (h : isLocal sc x = true) : sc.names.lookup x = some .local := by
  unfold isLocal at h
  split at h
  · rename_i e; exact e
  · cases h
theorem gl_of {X : Cx} {sc : Scope} {x : Str} (hs : X.env.scope = sc) (h : glB sc x = true) : Gl X x := by
  unfold glB at h
  split at h
  · rename_i e
    subst hs
    exact e
  · cases h
theorem names_of {x : Str} (h : nameOk x = true) : (x == ("__debug__" : Str)) = false ∧ (x == ("__classdict__" : Str)) = false ∧ x ≠ Str.ofString "__name__" := by
  unfold nameOk at h
  simp only [Bool.and_eq_true, Bool.not_eq_true'] at h
  exact ⟨h.1.1, h.1.2, fun e => by have := h.2; rw [e] at this; simp at this⟩
theorem star_of {e : Expr} {es : List Expr} {env : PySem.Env} (h : noStar e = true) : starEach (e :: es) env = (false, eval e env) :: starEach es env := by
  cases e <;> first | rfl | cases h
theorem behind_of {o : CmpOp} {e : Expr} (h : notSet e = true) : behindInMarks o e = false := by
  cases e <;> first | rfl | cases h
theorem last_of {o p : CmpOp} {b c : Expr} (h : notSet c = true) : lastMarks [o, p] [b, c] = false := behind_of h
theorem plainIx_of {e : Expr} (h : plainE e = true) : PlainIx e := by
  cases e <;> first | (intro _ _; rfl) | cases h
theorem base_of {e : Expr} {m : Str} {env : PySem.Env} (h : noCall e = true) : attributeBase e m env (eval e env) = eval e env := by
  cases e with
  | Call f args kws pos =>
    cases args with
    | nil => cases h
    | cons a r => cases f <;> rfl
  | _ => first | rfl | cases h
theorem sw_of {e : Expr} {t : Option Expr} {l : Nat} {env : PySem.Env} (h : plainE e = true) : swapsWith e t l env = pure false := by
  cases e <;> first | rfl | cases h
theorem fold_of {e : Expr} {env : PySem.Env} (h : (match e with
  | .Set .. => false
  | _ => true) = true) : ∀ x, foldedSetIterable e env x = pure x := by
  cases e <;> first | (intro _; rfl) | cases h
theorem cst_of {c : Const} {d : D} (h : cstB c d = true) {X : Cx} {K : PySem.W.Frag} {B : List Nat} {j : Nat} {pos : Pos} : PE X (.Constant c j pos) (tM K B fun _ => M.ret (.d d)) := by
  unfold cstB at h
  split at h
  · exact e_cst_non
  · rw [eq_of_beq h]; exact e_cst_bl
  · rw [of_decide_eq_true h]; exact e_cst_int
  · rw [of_decide_eq_true h]; exact e_cst_str
  · cases h
theorem tb_none {α : Type} {l : List (Bool × α)} {f : Bool × α → Bool × α} (hf : ∀ p, (f p).1 = p.1) (h : ∀ p ∈ l, p.1 = false) : (List.any (l.map f) fun x => x.1) = false := by
  rw [List.any_map, List.any_eq_false]
  intro p hp
  simp only [Function.comp_apply, hf, h p hp]
  decide
theorem stars_none {env : PySem.Env} : ∀ {es : List Expr}, (∀ e ∈ es, noStar e = true) → ∀ p ∈ starEach es env, p.1 = false
  | [], _, p, hp => absurd hp List.not_mem_nil
  | e :: es, h, p, hp => by
    rw [star_of (h e List.mem_cons_self)] at hp
    rcases List.mem_cons.mp hp with z | z
    · rw [z]
    · exact stars_none (fun e he => h e (List.mem_cons_of_mem _ he)) p z
theorem back_none {env : PySem.Env} {pos : Pos} {es : List Expr} (h : ∀ e ∈ es, noStar e = true) : (List.any (backTo pos (starEach es env)) fun x => x.1) = false :=
  tb_none (fun p => rfl) (stars_none h)
theorem back_all {env : PySem.Env} {pos : Pos} {es : List Expr} (h : ∀ e ∈ es, noStar e = true) : ((backTo pos (starEach es env)).all fun x => !x.1) = true := by
  rw [List.all_eq_true]
  intro p hp
  have := List.any_eq_false.mp (back_none (pos := pos) (env := env) h) p hp
  simpa using this
theorem bts {bl : Blt} : bootBuiltins bl.nm = some bl.val := by
  cases bl with
  | isi ts => exact (by decide +kernel : bootBuiltins "isinstance" = some (.builtin "isinstance"))
  | _ => decide +kernel
theorem boot_ty (t : Ty) : bootBuiltins t.pyn = some (.type t.nm) := by
  cases t <;> decide +kernel
theorem blt_mem {bl : Blt} : bl.nm ∈ bltAll := by
  cases bl with
  | isi ts => exact (by decide +kernel : ("isinstance" : Str) ∈ bltAll)
  | _ => decide +kernel
theorem ty_mem {t : Ty} : t.pyn ∈ bltAll := by
  cases t <;> decide +kernel
theorem ty_ne {t : Ty} : t.pyn ≠ ("__name__" : Str) ∧ (t.pyn == ("__debug__" : Str)) = false := by
  cases t <;> exact ⟨by decide +kernel, by decide +kernel⟩
theorem blt_ne {bl : Blt} : bl.nm ≠ Str.ofString "__name__" ∧ (bl.nm == Str.ofString "__debug__") = false := by
  cases bl with
  | isi ts => exact (⟨by decide +kernel, by decide +kernel⟩ : ("isinstance" : Str) ≠ Str.ofString "__name__" ∧ (("isinstance" : Str) == Str.ofString "__debug__") = false)
  | _ => exact ⟨by decide +kernel, by decide +kernel⟩

/-! ### the context -/
structure XOk (FT : List Fn) (d : Nat) (N : List Str) (sc so : Scope) (X : Cx) : Prop where
  calm : X.calm = true
  hN : X.N = N
  nd : N.Nodup
  hsc : X.env.scope = sc
  kind : sc.kind = .function
  room : Room d X.A
  xe : X.xe = fun _ _ => False
  bl : ∀ x ∈ bltAll, X.mg x = none
  fns : ∀ f t, FT[f]? = some t → ∃ a fd, X.mg t.name = some (.ref a) ∧ PySem.W.keepIn X.K (.ref a) = true ∧ Binds X.K fd (t.N.take t.np) [] ∧ (t.N.take t.np).length = t.np ∧ FnOk X.prog X.w X.K X.mg X.base CX0 d a fd (t.N.take t.np) (spC X.K (call FT d f) t.np)
  st : ∀ x, (so.names.lookup x = some .local ∨ so.names.lookup x = some .cell) → L2.Loc X.env.scope x ∧ (X.fn x = true ∨ X.env.scope.names.lookup x = some .local)
theorem XOk.cline {FT : List Fn} {d : Nat} {N : List Str} {sc so : Scope} {X : Cx} (x : XOk FT d N sc so X) : X.A.units + 65 < cLine := by
  have := x.room.un
  omega
theorem XOk.blk {FT : List Fn} {d : Nat} {N : List Str} {sc so : Scope} {X : Cx} (x : XOk FT d N sc so X) {scope : Scope} (hk : scope.kind = .function) (s : Shared) (H : Hp) (C : Addr) (cl : List (Str × Addr)) (fp : List Addr) :
    XOk FT d N (relS scope sc) scope (X.blk s H scope (compEnvC scope cl C X.env) fp) where
  calm := x.calm
  hN := x.hN
  nd := x.nd
  hsc := by
    have : (compEnvC scope cl C X.env).scope = relS scope X.env.scope := rfl
    show (compEnvC scope cl C X.env).scope = relS scope sc
    rw [this, x.hsc]
  kind := hk
  room := x.room
  xe := rfl
  bl := x.bl
  fns := x.fns
  st := fun y hy => by
    have e : (X.blk s H scope (compEnvC scope cl C X.env) fp).env.scope = relS scope X.env.scope := rfl
    have k : ∀ k, k ≠ NameKind.free → scope.names.lookup y = some k → (relS scope X.env.scope).names.lookup y = some k := fun k hk hl => lookup_relS_keep hk hl
    rcases hy with hy | hy
    · have := k _ (by decide) hy
      exact ⟨.inl this, .inr this⟩
    · have := k _ (by decide) hy
      refine ⟨.inr this, .inl ?_⟩
      show (scope.names.lookup y == some NameKind.cell) = true
      rw [hy]
      rfl
theorem call_len {FT : List Fn} {d f : Nat} {t : Fn} (ht : FT[f]? = some t) {xs : List PV} {h : Hs} {r : PV × Hs} (e : call FT d f xs h = some r) : xs.length = t.np := by
  cases d with
  | zero => cases e
  | succ d =>
    unfold call at e
    rw [ht] at e
    dsimp only at e
    split at e
    · assumption
    · cases e

/-! ### targets -/
section
variable {K : PySem.W.Frag} {B : List Nat}
mutual
theorem snd_T {FT : List Fn} {d : Nat} {N : List Str} {sc so : Scope} {X : Cx} (x : XOk FT d N sc so X) : ∀ (t : T) (e : Expr), ckT N so e t = true → PG X e (tT X.K B t)
  | .nm i, e, h => by
    unfold ckT at h
    split at h
    · rename_i y pos j heq
      cases heq
      rw [Bool.and_eq_true, decide_eq_true_eq] at h
      obtain ⟨l, f⟩ := x.st y (loc_of h.2)
      exact g_nm (by rw [x.hN]; exact x.nd) (by rw [x.hN]; exact h.1) l f
    · rename_i heq
      cases heq
    · cases h
  | .tup ts, e, h => by
    unfold ckT at h
    split at h
    · rename_i heq
      cases heq
    · rename_i es k pos ts' heq
      cases heq
      obtain ⟨p, l, n, f⟩ := snd_Ts x ts es h
      exact g_tup x.calm p l n f
    · cases h
theorem snd_Ts {FT : List Fn} {d : Nat} {N : List Str} {sc so : Scope} {X : Cx} (x : XOk FT d N sc so X) : ∀ (ts : List T) (es : List Expr), ckTs N so es ts = true → PGs X es (tTs X.K B ts) ∧ es.length = ts.length ∧ (assignEach es X.env).length = es.length ∧ (assignEach es X.env).findIdx? (·.1) = none
  | [], es, h => by
    unfold ckTs at h
    split at h
    · exact ⟨gs_nil, rfl, rfl, rfl⟩
    · rename_i heq
      cases heq
    · cases h
  | t :: ts, es, h => by
    unfold ckTs at h
    split at h
    · rename_i heq
      cases heq
    · rename_i e es t' ts' heq
      cases heq
      simp only [Bool.and_eq_true] at h
      obtain ⟨p, l, n, f⟩ := snd_Ts x ts es h.2
      have ea : assignEach (e :: es) X.env = (false, assign e X.env) :: assignEach es X.env := by
        have := h.1.1
        cases e <;> first | rfl | cases this
      refine ⟨gs_cons (snd_T x t e h.1.2) p (by rw [ea]; rfl), by rw [List.length_cons, List.length_cons, l], by rw [ea, List.length_cons, List.length_cons, n], ?_⟩
      rw [ea, List.findIdx?_cons, f]
      rfl
    · cases h
end
end
theorem peE {X : Cx} {K : PySem.W.Frag} {B : List Nat} {e : Expr} {m m' : Env → M PV} (h : PE X e (tM K B m)) (q : ∀ env, m' env = m env) : PE X e (tM K B m') := by
  rw [show m' = m from funext q]
  exact h
theorem ptE {X : Cx} {K : PySem.W.Frag} {B : List Nat} {e : Expr} {m m' : Env → M PV} (h : PT X e (tMB K B (mB m))) (q : ∀ env, m' env = m env) : PT X e (tMB K B (mB m')) := by
  rw [show m' = m from funext q]
  exact h
theorem own_map {N : List Str} : ∀ own : List Nat, (ownN N own).map (·.2) = own
  | [] => rfl
  | i :: r => by
    show i :: (ownN N r).map (·.2) = i :: r
    rw [own_map r]
theorem tys_of {X : Cx} {sc : Scope} (hs : X.env.scope = sc) (hb : ∀ x ∈ bltAll, X.mg x = none) : ∀ {es : List Expr} {ts : List Ty}, ckTys sc es ts = true → PA X es (fun _ H Q => Q (ts.map fun t => V.ty t.nm) H)
  | [], ts, h => by
    cases ts with
    | nil => exact paI pa_nil fun σ H Q q => q
    | cons t ts => cases h
  | e :: es, ts, h => by
    cases ts with
    | nil => cases h
    | cons t ts =>
      unfold ckTys at h
      rw [Bool.and_eq_true] at h
      have h1 := h.1
      unfold ckTy at h1
      split at h1
      · rename_i y pos t2
        rw [Bool.and_eq_true, decide_eq_true_eq] at h1
        obtain ⟨rfl, g⟩ := h1
        exact paI (pa_cons (pe_bltn (v := .ty t.nm) (gl_of hs g) (hb _ ty_mem) (boot_ty _) (show RelV (.ty t.nm) (.type t.nm) from rfl) ty_ne.1 ty_ne.2) (tys_of hs hb h.2) rfl) fun σ H Q q => q
      · cases h1
end Pe
/-! Pe: expressions, what is checked is sound. -/
namespace Pe
open PySem PySem.Spec PyProof.Rows L2 RZ

structure SndE (FT : List Fn) (d : Nat) (N : List Str) (B : List Nat) (fb n : Nat) : Prop where
  e : ∀ sc so X, XOk FT d N sc so X → ∀ e e', ckE FT N n sc e e' = true → PE X e (tM X.K B (evE (call FT d) fb e'))
  v : ∀ sc so X, XOk FT d N sc so X → ∀ op vs e', ckV FT N n sc op vs e' = true → ∀ pos, PE X (.BoolOp op vs pos) (tM X.K B (evE (call FT d) fb e'))
  b : ∀ sc so X, XOk FT d N sc so X → ∀ e e', ckB FT N n sc e e' = true → PT X e (tMB X.K B (mB (evE (call FT d) fb e')))
  w : ∀ sc so X, XOk FT d N sc so X → ∀ op vs e', ckW FT N n sc op vs e' = true → ∀ pos, PW X (.BoolOp op vs pos) (tMB X.K B (mB (evE (call FT d) fb e')))
  es : ∀ sc so X, XOk FT d N sc so X → ∀ es es', ckEs FT N n sc es es' = true → PA X es (tMs X.K B (evEs (call FT d) fb es')) ∧ (∀ e ∈ es, noStar e = true)
  o : ∀ sc so X, XOk FT d N sc so X → ∀ o f e', ckO FT N n sc o f e' = true → PO X o (tMO X.K B (mPart f (evE (call FT d) fb e')))
  i : ∀ sc so X, XOk FT d N sc so X → ∀ tg e it, ckI FT N n sc tg e it = true → PI X tg e (tIt X.K B (evIt (call FT d) fb it))

section
variable {FT : List Fn} {d : Nat} {N : List Str} {B : List Nat} {fb n : Nat} {sc so : Scope} {X : Cx}
theorem snd_call (S : SndE FT d N B fb n) (x : XOk FT d N sc so X) {y : Str} {p pos : Pos} {args : List Expr} {f : Nat} {as : List E} {t : Fn} (ht : FT[f]? = some t) (hn : t.name = y) (hg : glB sc y = true) (ho : nameOk y = true) (ha : ckEs FT N n sc args as = true) :
    PE X (.Call (.Name y p) args [] pos) (tM X.K B (evE (call FT d) fb (.call f as))) := by
  obtain ⟨a, fd, h1, h2, h3, h4, F⟩ := x.fns f t ht
  obtain ⟨n1, n2, n3⟩ := names_of ho
  obtain ⟨pa, st⟩ := S.es sc so X x args as ha
  rw [hn] at h1
  have F' : FnOk X.prog X.w X.K X.mg X.base CX0 d a fd (t.N.take t.np) (spC X.K (call FT d f) (t.N.take t.np).length) := by
    rw [h4]
    exact F
  have hl : ∀ xs h r, call FT d f xs h = some r → xs.length = (t.N.take t.np).length := fun xs h r e => by
    rw [h4]
    exact call_len ht e
  cases args with
  | nil =>
    have has : as = [] := by
      cases n with
      | zero => cases ha
      | succ n =>
        cases as with
        | nil => rfl
        | cons b bs => cases ha
    subst has
    exact peE (e_call0 F' x.room (gl_of x.hsc hg) h1 h2 h3 n1 hl) fun env => rfl
  | cons b bs =>
    exact peE (e_call F' x.room (gl_of x.hsc hg) h1 h2 h3 pa n1 (star_of (st b List.mem_cons_self)) (back_none fun e he => st e (List.mem_cons_of_mem _ he)) hl) fun env => rfl
theorem snd_blt (S : SndE FT d N B fb n) (x : XOk FT d N sc so X) {y : Str} {p pos : Pos} {a : Expr} {args : List Expr} {bl : Blt} {as : List E} (hn : y = bl.nm) (ni : y ≠ "isinstance") (hg : glB sc y = true) (ha : ckEs FT N n sc (a :: args) as = true) :
    PE X (.Call (.Name y p) (a :: args) [] pos) (tM X.K B (evE (call FT d) fb (.blt bl as))) := by
  obtain ⟨pa, st⟩ := S.es sc so X x _ as ha
  subst hn
  refine peE (e_blt x.calm (fun ts e => ni ?_) (gl_of x.hsc hg) (x.bl _ blt_mem) bts pa blt_ne.1 blt_ne.2 (star_of (st a List.mem_cons_self)) (back_none fun e he => st e (List.mem_cons_of_mem _ he))) fun env => rfl
  rw [e]
  rfl
theorem isi_name : bootBuiltins "isinstance" = some (.builtin "isinstance") := by decide +kernel
theorem noStar_of_ck {n : Nat} {e : Expr} {e' : E} (h : ckE FT N n sc e e' = true) : noStar e = true := by
  cases n with
  | zero => cases h
  | succ n =>
    cases e with
    | Starred a b =>
      unfold ckE at h
      cases e' <;> cases h
    | _ => rfl
theorem snd_isi (S : SndE FT d N B fb n) (x : XOk FT d N sc so X) {p pos : Pos} {a t : Expr} {ts : List Ty} {a' : E} (hg : glB sc "isinstance" = true) (ha : ckE FT N n sc a a' = true) (ht : (match t with
      | .Tuple es _ _ => ckTys sc es ts && decide (ts.length < 100)
      | t => match ts with
        | [ty] => ckTy sc t ty
        | _ => false) = true) : PE X (.Call (.Name "isinstance" p) [a, t] [] pos) (tM X.K B (evE (call FT d) fb (.blt (.isi ts) [a']))) := by
  have pa := S.e sc so X x a a' ha
  have na := noStar_of_ck ha
  have gi : Gl X "isinstance" := gl_of x.hsc hg
  have mi : X.mg "isinstance" = none := x.bl _ (by decide +kernel)
  split at ht
  · rename_i es k p2
    rw [Bool.and_eq_true, decide_eq_true_eq] at ht
    exact peE (e_isiT (Nat.le_trans (Nat.le_of_lt ht.2) (by decide +kernel)) (tys_of x.hsc x.bl ht.1) gi mi isi_name pa (by decide +kernel) (by decide +kernel) (star_of na)) fun env => rfl
  · split at ht
    · rename_i ty
      unfold ckTy at ht
      split at ht
      · rename_i y p2 t2
        rw [Bool.and_eq_true, decide_eq_true_eq] at ht
        obtain ⟨rfl, g⟩ := ht
        have hb : PE X (.Name ty.pyn p2) (tC (.ty ty.nm)) := pe_bltn (v := .ty ty.nm) (gl_of x.hsc g) (x.bl _ ty_mem) (boot_ty _) (show RelV (.ty ty.nm) (.type ty.nm) from rfl) ty_ne.1 ty_ne.2
        exact peE (e_isi1 hb gi mi isi_name pa (by decide +kernel) (by decide +kernel) (star_of na) rfl rfl) fun env => rfl
      · cases ht
    · cases ht
theorem snd_mth (hB : ∀ b ∈ B, b ≤ fb) (S : SndE FT d N B fb n) (x : XOk FT d N sc so X) {apos cpos : Pos} {o : Expr} {args : List Expr} {m : Str} {m' : Mth} {o' : E} {as : List E} (hm : m = m'.nm) (hc : noCall o = true) (hl : (apos.endLine == cpos.line) = true) (hn : args.length < 20) (ho : ckE FT N n sc o o' = true) (ha : ckEs FT N n sc args as = true) :
    PE X (.Call (.Attribute o m apos) args [] cpos) (tM X.K B (evE (call FT d) fb (.mth m' o' as))) := by
  subst hm
  have po := S.e sc so X x o o' ho
  obtain ⟨pa, st⟩ := S.es sc so X x args as ha
  cases args with
  | nil =>
    have has : as = [] := by
      cases n with
      | zero => cases ha
      | succ n =>
        cases as with
        | nil => rfl
        | cons b bs => cases ha
    subst has
    exact peE (e_mth0 x.cline hB po (base_of hc) hl) fun env => rfl
  | cons b bs =>
    rw [List.length_cons] at hn
    refine peE (e_mth x.cline hB po pa (base_of hc) (by omega) hl (star_of (st b List.mem_cons_self)) (back_none fun e he => st e (List.mem_cons_of_mem _ he)) ?_) fun env => rfl
    rw [back_all st]
    show (true && true && decide (bs.length + 1 + 0 + 0 < 30)) = true
    rw [decide_eq_true (by omega)]
    rfl
theorem slc_same {ma ml mh : Env → M PV} {f1 f2 : Bool} {env : Env} : M.bnd (ma env) (fun x => M.bnd (if f1 then ml env else M.ret (.d .non)) fun l => M.bnd (if f2 then mh env else M.ret (.d .non)) fun u => match optI f1 l, optI f2 u with
      | some l, some u => sliceV x l u
      | _, _ => M.no) = M.bnd (ma env) fun x => M.bnd (mPart f1 ml env) fun l => M.bnd (mPart f2 mh env) fun u => sliceV x l u := by
  funext h
  unfold mPart M.bnd
  cases ma env h with
  | none => rfl
  | some r =>
    obtain ⟨x, h1⟩ := r
    dsimp only
    cases (if f1 then ml env else M.ret (.d .non)) h1 with
    | none => rfl
    | some r =>
      obtain ⟨l, h2⟩ := r
      dsimp only
      cases e1 : optI f1 l with
      | none =>
        dsimp only [M.of, M.no]
        cases (if f2 then mh env else M.ret (.d .non)) h2 with
        | none => rfl
        | some r => rfl
      | some i =>
        dsimp only [M.of, M.ret]
        cases (if f2 then mh env else M.ret (.d .non)) h2 with
        | none => rfl
        | some r =>
          obtain ⟨u, h3⟩ := r
          dsimp only
          cases optI f2 u with
          | none => rfl
          | some j => rfl
theorem snd_comp (S : SndE FT d N B fb n) (x : XOk FT d N sc so X) {elt tg : Expr} {ifs : List Expr} {scope : Scope} {own : List Nat} {tg' : T} {hc : Bool} {c' elt' : E} (h1 : blkC N sc scope (ownN N own) = true) (h2 : ckT N scope tg tg' = true) (h3 : (tg'.slots.all fun i => decide (i ∈ own)) = true)
    (h5 : ckE FT N n (relS scope sc) elt elt' = true) (h6 : (match ifs, hc with
      | [], false => true
      | [c], true => ckB FT N n (relS scope sc) c c'
      | _, _ => false) = true) : BlkOk X.N X.env.scope scope (ownN N own) ∧ (∀ i ∈ tg'.slots, i ∈ (ownN N own).map (·.2)) ∧
    (∀ (s : Shared) (H : Hp) (C : Addr) (cl : List (Str × Addr)) (fp : List Addr), PG (X.blk s H scope (compEnvC scope cl C X.env) fp) tg (tT X.K B tg')) ∧
    (∀ (s : Shared) (H : Hp) (C : Addr) (cl : List (Str × Addr)) (fp : List Addr), PTs (X.blk s H scope (compEnvC scope cl C X.env) fp) ifs (tMB X.K B (tests hc (evE (call FT d) fb c')))) ∧
    (∀ (s : Shared) (H : Hp) (C : Addr) (cl : List (Str × Addr)) (fp : List Addr), PE (X.blk s H scope (compEnvC scope cl C X.env) fp) elt (tM X.K B (evE (call FT d) fb elt'))) := by
  have ok := blkOk_by h1
  refine ⟨by rw [x.hN, x.hsc]; exact ok, fun i hi => ?_, fun s H C cl fp => ?_, fun s H C cl fp => ?_, fun s H C cl fp => ?_⟩
  · rw [own_map]
    exact of_decide_eq_true (List.all_eq_true.mp h3 i hi)
  · exact snd_T (x.blk ok.kind s H C cl fp) tg' tg h2
  · split at h6
    · exact pts_yes
    · exact pts_if (S.b _ _ _ (x.blk ok.kind s H C cl fp) _ _ h6)
    · cases h6
  · exact S.e _ _ _ (x.blk ok.kind s H C cl fp) _ _ h5
theorem comp_eq {own : List Nat} {tg' : T} {it' : It} {hc : Bool} {c' elt' : E} (env : Env) : evE (call FT d) fb (.comp own tg' it' hc c' elt') env = mComp (evIt (call FT d) fb it') tg' ((ownN N own).map (·.2)) (tests hc (evE (call FT d) fb c')) (evE (call FT d) fb elt') env := by
  rw [own_map]
  rfl
theorem dcomp_eq {own : List Nat} {tg' : T} {it' : It} {hc : Bool} {c' k' v' : E} (env : Env) : evE (call FT d) fb (.dcomp own tg' it' hc c' k' v') env = mDcomp (evIt (call FT d) fb it') tg' ((ownN N own).map (·.2)) (tests hc (evE (call FT d) fb c')) (evE (call FT d) fb k') (evE (call FT d) fb v') env := by
  rw [own_map]
  rfl
theorem all_in {xs ys : List Nat} (h : (xs.all fun i => decide (i ∈ ys)) = true) : ∀ i ∈ xs, i ∈ ys := fun i hi => of_decide_eq_true (List.all_eq_true.mp h i hi)
theorem own_in {own own1 : List Nat} (h : (own1.all fun i => decide (i ∈ own)) = true) : ∀ i ∈ own1, i ∈ (ownN N own).map (·.2) := fun i hi => by
  rw [own_map]
  exact all_in h i hi
theorem lsc_eq {own : List Nat} {tg' : T} {it' : It} {hc : Bool} {c' elt' : E} (env : Env) : evE (call FT d) fb (.lsc own tg' it' hc c' elt') env = mLsc (evIt (call FT d) fb it') tg' ((ownN N own).map (·.2)) (tests hc (evE (call FT d) fb c')) (evE (call FT d) fb elt') env := by
  rw [own_map]
  rfl
theorem comp2_eq {own own1 : List Nat} {tg' tg1' : T} {it' it1' : It} {hc hc1 : Bool} {c' c1' elt' : E} (env : Env) : evE (call FT d) fb (.comp2 own tg' it' hc c' own1 tg1' it1' hc1 c1' elt') env = mC2 (evIt (call FT d) fb it') tg' ((ownN N own).map (·.2)) (tests hc (evE (call FT d) fb c')) (evIt (call FT d) fb it1') tg1' own1 (tests hc1 (evE (call FT d) fb c1')) (evE (call FT d) fb elt') env := by
  rw [own_map]
  rfl
theorem not_set_iter {n : Nat} {tg e : Expr} {it : It} (h : ckI FT N n sc tg e it = true) : ∀ (env : PySem.Env) x, foldedSetIterable e env x = pure x := by
  intro env
  cases n with
  | zero => cases h
  | succ n =>
    unfold ckI at h
    cases it with
    | seq e' =>
      dsimp only at h
      rw [Bool.and_eq_true] at h
      exact fold_of h.1
    | rng1 a => dsimp only at h; split at h <;> first | (intro _; rfl) | cases h
    | rng2 a b => dsimp only at h; split at h <;> first | (intro _; rfl) | cases h
    | rngd a b => dsimp only at h; split at h <;> first | (intro _; rfl) | cases h
    | enum a => dsimp only at h; split at h <;> first | (intro _; rfl) | cases h
    | zip a b => dsimp only at h; split at h <;> first | (intro _; rfl) | cases h
end
theorem snd_E {FT : List Fn} {d : Nat} {N : List Str} {B : List Nat} {fb : Nat} (hB : ∀ b ∈ B, b ≤ fb) : ∀ n, SndE FT d N B fb n := by
  intro n
  induction n with
  | zero => exact ⟨fun _ _ _ _ _ _ h => absurd h Bool.false_ne_true, fun _ _ _ _ _ _ _ h => absurd h Bool.false_ne_true, fun _ _ _ _ _ _ h => absurd h Bool.false_ne_true,
      fun _ _ _ _ _ _ _ h => absurd h Bool.false_ne_true, fun _ _ _ _ _ _ h => absurd h Bool.false_ne_true, fun _ _ _ _ _ _ _ h => absurd h Bool.false_ne_true, fun _ _ _ _ _ _ _ h => absurd h Bool.false_ne_true⟩
  | succ n S =>
    refine ⟨fun sc so X x e e' h => ?_, fun sc so X x op vs e' h pos => ?_, fun sc so X x e e' h => ?_, fun sc so X x op vs e' h pos => ?_, fun sc so X x es es' h => ?_, fun sc so X x o f e' h => ?_, fun sc so X x tg e it h => ?_⟩
    · -- expressions
      unfold ckE at h
      split at h
      · rename_i y pos i
        simp only [Bool.and_eq_true, decide_eq_true_eq] at h
        obtain ⟨⟨h1, h2⟩, h3⟩ := h
        obtain ⟨n1, n2, _⟩ := names_of h3
        exact peE (e_var (by rw [x.hN]; exact h1) (by rw [x.hsc]; exact vis_of h2) n1 n2) fun env => rfl
      · exact peE (cst_of h) fun env => rfl
      · simp only [Bool.and_eq_true, decide_eq_true_eq] at h
        obtain ⟨⟨rfl, h2⟩, h3⟩ := h
        exact peE (e_bin (S.e _ _ _ x _ _ h2) (S.e _ _ _ x _ _ h3)) fun env => rfl
      · simp only [Bool.and_eq_true, decide_eq_true_eq] at h
        obtain ⟨rfl, h2⟩ := h
        exact peE (e_un (S.e _ _ _ x _ _ h2)) fun env => rfl
      · exact peE (e_nt (S.e _ _ _ x _ _ h)) fun env => rfl
      · exact S.v _ _ _ x _ _ _ h _
      · simp only [Bool.and_eq_true, decide_eq_true_eq] at h
        obtain ⟨⟨⟨rfl, h2⟩, h3⟩, h4⟩ := h
        exact peE (e_cmp x.cline (S.e _ _ _ x _ _ h3) (S.e _ _ _ x _ _ h4) (behind_of h2)) fun env => rfl
      · simp only [Bool.and_eq_true, decide_eq_true_eq] at h
        obtain ⟨⟨⟨⟨⟨rfl, rfl⟩, h2⟩, h3⟩, h4⟩, h5⟩ := h
        exact peE (e_chn x.cline (S.e _ _ _ x _ _ h3) (S.e _ _ _ x _ _ h4) (S.e _ _ _ x _ _ h5) (last_of h2)) fun env => rfl
      · simp only [Bool.and_eq_true] at h
        obtain ⟨⟨h1, h2⟩, h3⟩ := h
        exact peE (e_ifx (S.b _ _ _ x _ _ h1) (S.e _ _ _ x _ _ h2) (S.e _ _ _ x _ _ h3)) fun env => rfl
      · simp only [Bool.and_eq_true] at h
        obtain ⟨⟨⟨h1, h2⟩, h3⟩, h4⟩ := h
        split at h1
        · rename_i t ht
          exact snd_call S x ht (of_decide_eq_true h1) h2 h3 h4
        · cases h1
      · simp only [Bool.and_eq_true, decide_eq_true_eq] at h
        obtain ⟨⟨⟨rfl, h2⟩, h3⟩, h4⟩ := h
        exact snd_isi S x h2 h3 h4
      · simp only [Bool.and_eq_true, decide_eq_true_eq, Bool.not_eq_true', decide_eq_false_iff_not] at h
        obtain ⟨⟨⟨h1, h2⟩, h3⟩, h4⟩ := h
        exact snd_blt S x h1 h2 h3 h4
      · simp only [Bool.and_eq_true, decide_eq_true_eq] at h
        obtain ⟨⟨⟨⟨⟨h1, h2⟩, h3⟩, h4⟩, h5⟩, h6⟩ := h
        exact snd_mth hB S x h1 h2 h3 h4 h5 h6
      · simp only [Bool.and_eq_true, decide_eq_true_eq] at h
        obtain ⟨⟨⟨⟨⟨rfl, h2⟩, h3⟩, h4⟩, h5⟩, h6⟩ := h
        exact peE (e_join (S.e _ _ _ x _ _ h5) (S.e _ _ _ x _ _ h6) (star_of h4) (base_of h2) h3) fun env => rfl
      · rename_i t a'
        simp only [Bool.and_eq_true, decide_eq_true_eq] at h
        obtain ⟨⟨⟨⟨⟨rfl, rfl⟩, h3⟩, h4⟩, h5⟩, h6⟩ := h
        cases t with
        | true => exact peE (e_lrgT x.calm (gl_of x.hsc h3) (x.bl _ (by decide +kernel)) (gl_of x.hsc h4) (x.bl _ (by decide +kernel)) (S.e _ _ _ x _ _ h6) (star_of h5)) fun env => rfl
        | false => exact peE (e_lrgF x.calm (gl_of x.hsc h3) (x.bl _ (by decide +kernel)) (gl_of x.hsc h4) (x.bl _ (by decide +kernel)) (S.e _ _ _ x _ _ h6) (star_of h5)) fun env => rfl
      · simp only [Bool.and_eq_true, decide_eq_true_eq] at h
        obtain ⟨⟨⟨⟨⟨rfl, rfl⟩, h3⟩, h4⟩, h5⟩, h6⟩ := h
        exact peE (e_sset x.calm (gl_of x.hsc h3) (x.bl _ (by decide +kernel)) (gl_of x.hsc h4) (x.bl _ (by decide +kernel)) (S.e _ _ _ x _ _ h6) (star_of h5)) fun env => rfl
      · simp only [Bool.and_eq_true, decide_eq_true_eq] at h
        obtain ⟨⟨⟨⟨⟨rfl, rfl⟩, h3⟩, h4⟩, h5⟩, h6⟩ := h
        exact peE (e_lset x.calm (gl_of x.hsc h3) (x.bl _ (by decide +kernel)) (gl_of x.hsc h4) (x.bl _ (by decide +kernel)) (S.e _ _ _ x _ _ h6) (star_of h5)) fun env => rfl
      · simp only [Bool.and_eq_true, decide_eq_true_eq] at h
        obtain ⟨⟨⟨rfl, h2⟩, h3⟩, h4⟩ := h
        exact peE (e_rgv (gl_of x.hsc h2) (x.bl _ (by decide +kernel)) (S.e _ _ _ x _ _ h4) (star_of h3)) fun env => rfl
      · rename_i mx a'
        simp only [Bool.and_eq_true, decide_eq_true_eq] at h
        obtain ⟨⟨⟨⟨h1, rfl⟩, h3⟩, h4⟩, h5⟩ := h
        cases mx with
        | true =>
          obtain rfl : _ = ("max" : Str) := h1
          exact peE (e_mxd true rfl x.calm (gl_of x.hsc h3) (x.bl _ (by decide +kernel)) (S.e _ _ _ x _ _ h5) (star_of h4)) fun env => rfl
        | false =>
          obtain rfl : _ = ("min" : Str) := h1
          exact peE (e_mxd false rfl x.calm (gl_of x.hsc h3) (x.bl _ (by decide +kernel)) (S.e _ _ _ x _ _ h5) (star_of h4)) fun env => rfl
      · exact peE (e_tup (S.es _ _ _ x _ _ h).1) fun env => rfl
      · exact peE (e_lst (S.es _ _ _ x _ _ h).1) fun env => rfl
      · exact peE (e_rsl (S.e _ _ _ x _ _ h)) fun env => rfl
      · simp only [Bool.and_eq_true] at h
        obtain ⟨⟨h1, h2⟩, h3⟩ := h
        exact peE (e_slc (S.e _ _ _ x _ _ h1) (S.o _ _ _ x _ _ _ h2) (S.o _ _ _ x _ _ _ h3)) fun env => slc_same
      · simp only [Bool.and_eq_true] at h
        obtain ⟨⟨h1, h2⟩, h3⟩ := h
        exact peE (e_idx (S.e _ _ _ x _ _ h2) (S.e _ _ _ x _ _ h3) (plainIx_of h1)) fun env => rfl
      · simp only [Bool.and_eq_true] at h
        obtain ⟨⟨⟨⟨⟨h1, h2⟩, h3⟩, h4⟩, h5⟩, h6⟩ := h
        obtain ⟨k1, k2, k3, k4, k5⟩ := snd_comp S x h1 h2 h3 h5 h6
        exact peE (e_comp x.calm (by rw [x.hN]; exact x.nd) (S.i _ _ _ x _ _ _ h4) k1 k2 k3 k4 k5 (not_set_iter h4 _)) fun env => comp_eq env
      · simp only [Bool.and_eq_true] at h
        obtain ⟨⟨⟨⟨⟨⟨h1, h2⟩, h3⟩, h4⟩, h5⟩, h7⟩, h6⟩ := h
        obtain ⟨k1, k2, k3, k4, k5⟩ := snd_comp S x h1 h2 h3 h5 h6
        obtain ⟨_, _, _, _, k6⟩ := snd_comp S x h1 h2 h3 h7 h6
        exact peE (e_dcomp x.calm (by rw [x.hN]; exact x.nd) (S.i _ _ _ x _ _ _ h4) k1 k2 k3 k4 k5 k6 (not_set_iter h4 _)) fun env => dcomp_eq env
      · simp only [Bool.and_eq_true, decide_eq_true_eq] at h
        obtain ⟨⟨⟨⟨⟨⟨⟨g1, g2⟩, h1⟩, h2⟩, h3⟩, h4⟩, h5⟩, h6⟩ := h
        subst g1
        obtain ⟨k1, k2, k3, k4, k5⟩ := snd_comp S x h1 h2 h3 h5 h6
        exact peE (e_lsc x.calm (gl_of x.hsc g2) (x.bl _ (by decide +kernel)) (by rw [x.hN]; exact x.nd) (S.i _ _ _ x _ _ _ h4) k1 k2 k3 k4 k5 (not_set_iter h4 _)) fun env => lsc_eq env
      · simp only [Bool.and_eq_true] at h
        obtain ⟨⟨⟨⟨⟨⟨⟨⟨⟨⟨⟨h1, h2⟩, h3⟩, h4⟩, h5⟩, h6⟩, j2⟩, j3⟩, j7⟩, j8⟩, j4⟩, j6⟩ := h
        obtain ⟨k1, k2, k3, k4, k5⟩ := snd_comp S x h1 h2 h3 h5 h6
        obtain ⟨_, _, l3, l4, _⟩ := snd_comp S x h1 j2 j3 h5 j6
        exact peE (e_comp2 x.calm (by rw [x.hN]; exact x.nd) (S.i _ _ _ x _ _ _ h4) k1 k2 (own_in j8) (all_in j7) k3 k4 (fun s H C cl fp => S.i _ _ _ (x.blk (blkOk_by h1).kind s H C cl fp) _ _ _ j4) l3 l4 k5 (not_set_iter h4 _) (not_set_iter j4)) fun env => comp2_eq env
      · cases h
    · -- values of and, or
      unfold ckV at h
      split at h
      · exact pe_one (S.e _ _ _ x _ _ h)
      · split at h
        · rw [Bool.and_eq_true] at h
          exact peE (e_an (S.e _ _ _ x _ _ h.1) (S.v _ _ _ x _ _ _ h.2 pos)) fun env => rfl
        · rw [Bool.and_eq_true] at h
          exact peE (e_or (S.e _ _ _ x _ _ h.1) (S.v _ _ _ x _ _ _ h.2 pos)) fun env => rfl
        · cases h
      · cases h
    · -- tests
      unfold ckB at h
      split at h
      · split at h
        · exact ptE (t_not (S.b _ _ _ x _ _ h)) fun env => rfl
        · cases h
      · exact (S.w _ _ _ x _ _ _ h _).pt
      · split at h
        · simp only [Bool.and_eq_true, decide_eq_true_eq] at h
          obtain ⟨⟨⟨rfl, h2⟩, h3⟩, h4⟩ := h
          exact ptE (t_cmp x.cline (S.e _ _ _ x _ _ h3) (S.e _ _ _ x _ _ h4) (behind_of h2)) fun env => rfl
        · cases h
      · split at h
        · simp only [Bool.and_eq_true, decide_eq_true_eq] at h
          obtain ⟨⟨⟨⟨⟨rfl, rfl⟩, h2⟩, h3⟩, h4⟩, h5⟩ := h
          exact ptE (t_chn x.cline (S.e _ _ _ x _ _ h3) (S.e _ _ _ x _ _ h4) (S.e _ _ _ x _ _ h5) (last_of h2)) fun env => rfl
        · cases h
      · exact t_val (S.e _ _ _ x _ _ h) fun _ => rfl
      · exact t_val (S.e _ _ _ x _ _ h) fun _ => rfl
      · exact t_val (S.e _ _ _ x _ _ h) fun _ => rfl
      · exact t_val (S.e _ _ _ x _ _ h) fun _ => rfl
      · cases h
    · -- tests of and, or
      unfold ckW at h
      split at h
      · exact w_one (S.b _ _ _ x _ _ h)
      · split at h
        · rw [Bool.and_eq_true] at h
          have := w_an (S.b _ _ _ x _ _ h.1) (S.w _ _ _ x _ _ _ h.2 pos)
          exact this
        · rw [Bool.and_eq_true] at h
          have := w_or (S.b _ _ _ x _ _ h.1) (S.w _ _ _ x _ _ _ h.2 pos)
          exact this
        · cases h
      · cases h
    · -- arguments
      unfold ckEs at h
      split at h
      · exact ⟨a_nil, fun _ z => absurd z List.not_mem_nil⟩
      · simp only [Bool.and_eq_true] at h
        obtain ⟨⟨h1, h2⟩, h3⟩ := h
        obtain ⟨p, s⟩ := S.es _ _ _ x _ _ h3
        refine ⟨a_cons (S.e _ _ _ x _ _ h2) p (star_of h1), fun e he => ?_⟩
        rcases List.mem_cons.mp he with z | z
        · rw [z]; exact h1
        · exact s e z
      · cases h
    · -- parts of slices
      unfold ckO at h
      split at h
      · exact o_none
      · exact o_some (S.e _ _ _ x _ _ h)
      · cases h
    · -- what is walked
      have hz := h
      unfold ckI at h
      split at h
      · rw [Bool.and_eq_true] at h
        exact i_seq (S.e _ _ _ x _ _ h.2)
      · split at h
        · simp only [Bool.and_eq_true, decide_eq_true_eq] at h
          obtain ⟨⟨⟨rfl, h2⟩, h3⟩, h4⟩ := h
          exact i_rng1 (gl_of x.hsc h2) (x.bl _ (by decide +kernel)) (a_cons (S.e _ _ _ x _ _ h4) a_nil (star_of h3)) (star_of h3)
        · cases h
      · split at h
        · simp only [Bool.and_eq_true, decide_eq_true_eq] at h
          obtain ⟨⟨⟨⟨⟨rfl, h2⟩, h3⟩, h4⟩, h5⟩, h6⟩ := h
          exact i_rng2 (gl_of x.hsc h2) (x.bl _ (by decide +kernel)) (a_cons (S.e _ _ _ x _ _ h5) (a_cons (S.e _ _ _ x _ _ h6) a_nil (star_of h4)) (star_of h3)) (by rw [star_of h3, star_of h4]; rfl) (star_of h4)
        · cases h
      · split at h
        · simp only [Bool.and_eq_true, decide_eq_true_eq] at h
          obtain ⟨⟨⟨⟨⟨⟨⟨rfl, h2⟩, h3⟩, h4⟩, h7⟩, h5⟩, h6⟩, h8⟩ := h
          have p3 := a_cons (S.e _ _ _ x _ _ h5) (a_cons (S.e _ _ _ x _ _ h6) (a_cons (S.e _ _ _ x _ _ h8) a_nil (star_of h7)) (star_of h4)) (star_of h3)
          exact i_rngd (gl_of x.hsc h2) (x.bl _ (by decide +kernel)) p3 (star_of h3) (back_none fun e he => by
            simp only [List.mem_cons, List.not_mem_nil, or_false] at he
            rcases he with rfl | rfl
            · exact h4
            · exact h7)
        · cases h
      · split at h
        · simp only [Bool.and_eq_true, decide_eq_true_eq] at h
          obtain ⟨⟨⟨rfl, h2⟩, h3⟩, h4⟩ := h
          exact i_enum (gl_of x.hsc h2) (x.bl _ (by decide +kernel)) (a_cons (S.e _ _ _ x _ _ h4) a_nil (star_of h3)) (star_of h3)
        · cases h
      · split at h
        · simp only [Bool.and_eq_true, decide_eq_true_eq] at h
          obtain ⟨⟨⟨⟨⟨rfl, h2⟩, h3⟩, h4⟩, h5⟩, h6⟩ := h
          exact i_zip (gl_of x.hsc h2) (x.bl _ (by decide +kernel)) (a_cons (S.e _ _ _ x _ _ h5) (a_cons (S.e _ _ _ x _ _ h6) a_nil (star_of h4)) (star_of h3)) (star_of h3) (back_none fun e he => by
            rw [List.mem_singleton] at he
            rw [he]
            exact h4)
        · cases h
end Pe
/-! Pe: statements and defs, what is checked is sound. -/
namespace Pe
open PySem PySem.Spec PyProof.Rows L2 RZ

theorem psE {X : Cx} {K : PySem.W.Frag} {B : List Nat} {s : Stmt} {m m' : Env → M Fl} (h : PS X s (tS K B m)) (q : ∀ env, m' env = m env) : PS X s (tS K B m') := by
  rw [show m' = m from funext q]
  exact h
theorem pssE {X : Cx} {K : PySem.W.Frag} {B : List Nat} {s : List Stmt} {m m' : Env → M Fl} (h : PSs X s (tS K B m)) (q : ∀ env, m' env = m env) : PSs X s (tS K B m') := by
  rw [show m' = m from funext q]
  exact h
theorem sws_of {tg e : Expr} {l : Nat} {env : PySem.Env} (h : plainE e = true) : swapsWithSole [tg] e l env = pure false := sw_of h
theorem swst_of {tg a : Expr} {env : PySem.Env} (h : (match a with
      | .Tuple .. => match tg with
        | .Name .. => true
        | _ => false
      | _ => true) = true) : swappedStores [tg] a env = pure none := by
  cases a with
  | Tuple es k p =>
    cases tg with
    | Name x p => rfl
    | _ => cases h
  | _ => cases tg <;> rfl
theorem asg_one {N : List Str} {so : Scope} {tg : Expr} {t : T} {env : PySem.Env} (h : ckT N so tg t = true) : (assignEach [tg] env).map (·.2) = [assign tg env] := by
  cases tg with
  | Starred a p =>
    cases t <;> cases h
  | _ => rfl
theorem asg_sub {b c : Expr} {p : Pos} {env : PySem.Env} (h : plainE c = true) : ∀ v, assign (.Subscript b c p) env v = (do
      let ov ← holding [v] (eval b env)
      let iv ← holding [v, ov] (eval c env)
      standAt p
      holding [v, ov, iv] (setItem ov iv v)
      release [v, ov, iv] []) := by
  intro v
  cases c with
  | Slice a b c => cases h
  | _ => rfl
structure SndS (FT : List Fn) (d : Nat) (N : List Str) (B : List Nat) (fb n : Nat) : Prop where
  s : ∀ sc X, XOk FT d N sc sc X → ∀ s s', ckS FT N n sc s s' = true → PS X s (tS X.K B (evS (call FT d) fb s'))
  ss : ∀ sc X, XOk FT d N sc sc X → ∀ ss ss', ckSs FT N n sc ss ss' = true → PSs X ss (tS X.K B (evSs (call FT d) fb ss'))
theorem passes_of {FT : List Fn} {d : Nat} {N : List Str} {sc so : Scope} {X : Cx} (x : XOk FT d N sc so X) : PassesOwn (model X.prog X.w) X.A X.env X.xe := by
  rw [x.xe]
  exact PassesOwn.never
theorem swB_of {FT : List Fn} {d : Nat} {N : List Str} {sc : Scope} {X : Cx} (x : XOk FT d N sc sc X) {elt : Expr} {gs : List Comprehension} {scope : Scope} {pos py : Pos} {y : Str} {l : Nat} : swapsWith (.ListComp elt gs scope pos) (some (.Name y py)) l X.env = pure (swB sc y py pos scope) := by
  have hk : X.env.scope.kind = .function := by rw [x.hsc]; exact x.kind
  have hb : X.env.blockKind = .function := by
    unfold PySem.Env.blockKind
    rw [hk]
    rfl
  unfold swapsWith swB isLocal
  simp only [hb, Expr.pos]
  have hy : X.env.kindOf y = sc.names.lookup y := by
    show X.env.scope.names.lookup y = _
    rw [x.hsc]
  rw [hy]
  cases sc.names.lookup y with
  | none => rfl
  | some k => cases k <;> rfl
theorem swB_ofD {FT : List Fn} {d : Nat} {N : List Str} {sc : Scope} {X : Cx} (x : XOk FT d N sc sc X) {kx vx : Expr} {gs : List Comprehension} {scope : Scope} {pos py : Pos} {y : Str} {l : Nat} : swapsWith (.DictComp kx vx gs scope pos) (some (.Name y py)) l X.env = pure (swB sc y py pos scope) := by
  have hk : X.env.scope.kind = .function := by rw [x.hsc]; exact x.kind
  have hb : X.env.blockKind = .function := by
    unfold PySem.Env.blockKind
    rw [hk]
    rfl
  unfold swapsWith swB isLocal
  simp only [hb, Expr.pos]
  have hy : X.env.kindOf y = sc.names.lookup y := by
    show X.env.scope.names.lookup y = _
    rw [x.hsc]
  rw [hy]
  cases sc.names.lookup y with
  | none => rfl
  | some k => cases k <;> rfl
theorem par_of {FT : List Fn} {d : Nat} {N : List Str} {sc : Scope} {X : Cx} (x : XOk FT d N sc sc X) {y z : Str} {px pz pt pt2 : Pos} {kt k2 : Nat} {a b : Expr} (h1 : isLocal sc y = true) (h2 : isLocal sc z = true) (hl : (px.line == pz.line) = true) (hne : y ≠ z)
    (hf : ([a, b].all (foldedForSure 8)) = false) (hc : ([a, b].all (constantsAlone 8)) = false) (ha : noStar a = true) (hb : noStar b = true) :
    swappedStores [.Tuple [.Name y px, .Name z pz] kt pt] (.Tuple [a, b] k2 pt2) X.env = pure (some [y, z]) := by
  have hk : X.env.scope.kind = .function := by rw [x.hsc]; exact x.kind
  have hbk : X.env.blockKind = .function := by
    unfold PySem.Env.blockKind
    rw [hk]
    rfl
  have ky : X.env.kindOf y = some .local := by
    show X.env.scope.names.lookup y = _
    rw [x.hsc]
    exact local_of h1
  have kz : X.env.kindOf z = some .local := by
    show X.env.scope.names.lookup z = _
    rw [x.hsc]
    exact local_of h2
  have nst : ∀ e : Expr, noStar e = true → (match e with
      | .Starred .. => true
      | _ => false) = false := fun e he => by
    cases e with
    | Starred u v => cases he
    | _ => rfl
  have hl2 : (pz.line == px.line) = true := by
    rw [eq_of_beq hl]
    exact beq_self_eq_true _
  unfold swappedStores
  simp only [List.length_cons, List.length_nil, hbk, List.any_cons, List.any_nil, nst a ha, nst b hb, List.head?_cons, Option.map_some, Option.getD_some, Expr.pos, List.filterMap_cons, List.filterMap_nil, ky, kz, hl2, beq_self_eq_true, Bool.and_self, if_true, hf, hc]
  have hed : ([y, z] : List Str).eraseDups.length = 2 := by
    simp [List.eraseDups_cons, hne, Ne.symm hne]
  simp [hed]
  intro h
  rcases h with h | h
  · cases a <;> first | exact absurd h Bool.false_ne_true | exact absurd ha Bool.false_ne_true
  · cases b <;> first | exact absurd h Bool.false_ne_true | exact absurd hb Bool.false_ne_true
theorem snd_S {FT : List Fn} {d : Nat} {N : List Str} {B : List Nat} {fb : Nat} (hB : ∀ b ∈ B, b ≤ fb) : ∀ n, SndS FT d N B fb n := by
  intro n
  induction n with
  | zero => exact ⟨fun _ _ _ _ _ h => absurd h Bool.false_ne_true, fun _ _ _ _ _ h => absurd h Bool.false_ne_true⟩
  | succ n S =>
    have SE := snd_E (FT := FT) (d := d) (N := N) hB
    refine ⟨fun sc X x s s' h => ?_, fun sc X x ss ss' h => ?_⟩
    · unfold ckS at h
      have nd : X.N.Nodup := by rw [x.hN]; exact x.nd
      split at h
      · -- name = [..]
        rename_i y py elt tg iter ifs scope pos spos i own tg' it' hc c' elt'
        simp only [Bool.and_eq_true, decide_eq_true_eq] at h
        obtain ⟨⟨h1, h2⟩, h3⟩ := h
        obtain ⟨lo, fo⟩ := x.st y (loc_of h2)
        have h4 := h3
        unfold ckE at h4
        simp only [Bool.and_eq_true] at h4
        obtain ⟨⟨⟨⟨⟨k1, k2⟩, k3⟩, k4⟩, k5⟩, k6⟩ := h4
        obtain ⟨q1, q2, q3, q4, q5⟩ := snd_comp (SE n) x k1 k2 k3 k5 k6
        cases hs : swB sc y py pos scope with
        | true =>
          have hloc : X.env.scope.names.lookup y = some .local := by
            rw [x.hsc]
            unfold swB at hs
            simp only [Bool.and_eq_true] at hs
            exact local_of hs.1.1
          refine psE (s_setC x.calm nd (by rw [x.hN]; exact h1) hloc (by rw [swB_of x, hs]) ((SE n).i _ _ _ x _ _ _ k4) q1 q2 q3 q4 q5 (not_set_iter k4 _)) fun env => ?_
          show M.bnd (evE (call FT d) fb (.comp own tg' it' hc c' elt') env) _ = _
          rw [comp_eq]
          rfl
        | false =>
          exact psE (s_asg ((SE (n + 1)).e _ _ _ x _ _ h3) (g_nm nd (by rw [x.hN]; exact h1) lo fo) ((swB_of (l := spos.line) x).trans (congrArg pure hs)) rfl rfl) fun env => rfl
      · -- name = {..}
        rename_i y py kx vx tg iter ifs scope pos spos i own tg' it' hc c' k' v'
        simp only [Bool.and_eq_true, decide_eq_true_eq] at h
        obtain ⟨⟨h1, h2⟩, h3⟩ := h
        obtain ⟨lo, fo⟩ := x.st y (loc_of h2)
        have h4 := h3
        unfold ckE at h4
        simp only [Bool.and_eq_true] at h4
        obtain ⟨⟨⟨⟨⟨⟨k1, k2⟩, k3⟩, k4⟩, k5⟩, k7⟩, k6⟩ := h4
        obtain ⟨q1, q2, q3, q4, q5⟩ := snd_comp (SE n) x k1 k2 k3 k5 k6
        obtain ⟨_, _, _, _, q6⟩ := snd_comp (SE n) x k1 k2 k3 k7 k6
        cases hs : swB sc y py pos scope with
        | true =>
          have hloc : X.env.scope.names.lookup y = some .local := by
            rw [x.hsc]
            unfold swB at hs
            simp only [Bool.and_eq_true] at hs
            exact local_of hs.1.1
          refine psE (s_setD x.calm nd (by rw [x.hN]; exact h1) hloc (by rw [swB_ofD x, hs]) ((SE n).i _ _ _ x _ _ _ k4) q1 q2 q3 q4 q5 q6 (not_set_iter k4 _)) fun env => ?_
          show M.bnd (evE (call FT d) fb (.dcomp own tg' it' hc c' k' v') env) _ = _
          rw [dcomp_eq]
          rfl
        | false =>
          exact psE (s_asg ((SE (n + 1)).e _ _ _ x _ _ h3) (g_nm nd (by rw [x.hN]; exact h1) lo fo) ((swB_ofD (l := spos.line) x).trans (congrArg pure hs)) rfl rfl) fun env => rfl
      · -- name = [.. for .. for ..]
        rename_i y py elt tg iter ifs tg1 iter1 ifs1 scope pos spos i own tg' it' hc c' own1 tg1' it1' hc1 c1' elt'
        simp only [Bool.and_eq_true, decide_eq_true_eq] at h
        obtain ⟨⟨h1, h2⟩, h3⟩ := h
        obtain ⟨lo, fo⟩ := x.st y (loc_of h2)
        have h4 := h3
        unfold ckE at h4
        simp only [Bool.and_eq_true] at h4
        obtain ⟨⟨⟨⟨⟨⟨⟨⟨⟨⟨⟨k1, k2⟩, k3⟩, k4⟩, k5⟩, k6⟩, j2⟩, j3⟩, j7⟩, j8⟩, j4⟩, j6⟩ := h4
        obtain ⟨q1, q2, q3, q4, q5⟩ := snd_comp (SE n) x k1 k2 k3 k5 k6
        obtain ⟨_, _, l3, l4, _⟩ := snd_comp (SE n) x k1 j2 j3 k5 j6
        cases hs : swB sc y py pos scope with
        | true =>
          have hloc : X.env.scope.names.lookup y = some .local := by
            rw [x.hsc]
            unfold swB at hs
            simp only [Bool.and_eq_true] at hs
            exact local_of hs.1.1
          refine psE (s_setC2 x.calm nd (by rw [x.hN]; exact h1) hloc (by rw [swB_of x, hs]) ((SE n).i _ _ _ x _ _ _ k4) q1 q2 (own_in j8) (all_in j7) q3 q4 (fun s H C cl fp => (SE n).i _ _ _ (x.blk (blkOk_by k1).kind s H C cl fp) _ _ _ j4) l3 l4 q5 (not_set_iter k4 _) (not_set_iter j4)) fun env => ?_
          show M.bnd (evE (call FT d) fb (.comp2 own tg' it' hc c' own1 tg1' it1' hc1 c1' elt') env) _ = _
          rw [comp2_eq]
          rfl
        | false =>
          exact psE (s_asg ((SE (n + 1)).e _ _ _ x _ _ h3) (g_nm nd (by rw [x.hN]; exact h1) lo fo) ((swB_of (l := spos.line) x).trans (congrArg pure hs)) rfl rfl) fun env => rfl
      · -- a, b = c, d
        rename_i y px z p2 kt pt a b k2 pt2 pos i j a' b'
        simp only [Bool.and_eq_true, decide_eq_true_eq, Bool.not_eq_true'] at h
        obtain ⟨⟨⟨⟨⟨⟨⟨⟨⟨⟨⟨⟨h1, h2⟩, h3⟩, h4⟩, h5⟩, h6⟩, h7⟩, h8⟩, h9⟩, h10⟩, h11⟩, h12⟩, h13⟩ := h
        exact psE (s_par x.calm nd (by rw [x.hN]; exact h1) (by rw [x.hN]; exact h2) h3 (by rw [x.hsc]; exact local_of h4) (by rw [x.hsc]; exact local_of h5) (a_cons ((SE n).e _ _ _ x _ _ h12) (a_cons ((SE n).e _ _ _ x _ _ h13) a_nil (star_of h11)) (star_of h10)) (par_of x h4 h5 h6 h7 h8 h9 h10 h11) rfl) fun env => rfl
      · simp only [Bool.and_eq_true] at h
        obtain ⟨⟨⟨⟨h1, h2⟩, h3⟩, h4⟩, h5⟩ := h
        exact psE (s_sub hB ((SE n).e _ _ _ x _ _ h3) ((SE n).e _ _ _ x _ _ h4) ((SE n).e _ _ _ x _ _ h5) (sws_of h1) (asg_sub h2)) fun env => rfl
      · simp only [Bool.and_eq_true] at h
        obtain ⟨⟨⟨h1, h2⟩, h3⟩, h4⟩ := h
        exact psE (s_asg ((SE n).e _ _ _ x _ _ h4) (snd_T x _ _ h3) (sws_of h1) (swst_of h2) (asg_one h3)) fun env => rfl
      · rename_i y p o a pos i o' a'
        simp only [Bool.and_eq_true, decide_eq_true_eq] at h
        obtain ⟨⟨⟨⟨⟨h1, h2⟩, rfl⟩, h4⟩, h5⟩, h6⟩ := h
        obtain ⟨lo, fo⟩ := x.st y (loc_of h2)
        refine psE (s_aug nd (by rw [x.hN]; exact h1) lo fo ?_ ((SE n).e _ _ _ x _ _ h6)) fun env => rfl
        cases o' <;> first | exact .inl rfl | exact .inr rfl | cases h4
      · rw [Bool.and_eq_true] at h
        exact psE (s_ex ((SE n).e _ _ _ x _ _ h.2) (sw_of h.1)) fun env => rfl
      · exact psE (s_ret ((SE n).e _ _ _ x _ _ h)) fun env => rfl
      · exact psE s_retn fun env => rfl
      · simp only [Bool.and_eq_true] at h
        obtain ⟨⟨h1, h2⟩, h3⟩ := h
        exact psE (s_if ((SE n).b _ _ _ x _ _ h1) (S.ss _ _ x _ _ h2) (S.ss _ _ x _ _ h3)) fun env => rfl
      · simp only [Bool.and_eq_true] at h
        obtain ⟨⟨h1, h2⟩, h3⟩ := h
        exact psE (s_for (passes_of x) x.calm ((SE n).i _ _ _ x _ _ _ h2) (snd_T x _ _ h1) (S.ss _ _ x _ _ h3) (not_set_iter h2 _)) fun env => rfl
      · simp only [Bool.and_eq_true] at h
        obtain ⟨h1, h2⟩ := h
        exact psE (s_wh (n := WF) (passes_of x) ((SE n).b _ _ _ x _ _ h1) (S.ss _ _ x _ _ h2)) fun env => rfl
      · exact psE s_break fun env => rfl
      · exact psE s_cont fun env => rfl
      · exact psE s_pass fun env => rfl
      · cases h
    · unfold ckSs at h
      split at h
      · exact pssE s_nil fun env => rfl
      · rw [Bool.and_eq_true] at h
        exact pssE (s_cons (S.s _ _ x _ _ h.1) (S.ss _ _ x _ _ h.2)) fun env => rfl
      · cases h
end Pe
/-! Pe: a checked table keeps its promises. -/
namespace Pe
open PySem PySem.Spec PyProof.Rows L2 RZ

/-- a def of the table, as it stands behind the top -/
structure FnK (K : PySem.W.Frag) (mg : Str → Option Value) (t : Fn) (st : Stmt) (a : Addr) (fd : FuncData) : Prop where
  fn : L2.Fun K t.name t.name st a fd
  mg : mg t.name = some (.ref a)
  bd : Binds K fd (t.N.take t.np) []
theorem nofree_of {l : List (Str × NameKind)} (h : (l.all fun y => match y.2 with
  | .free => false
  | _ => true) = true) : ∀ y ∈ l, y.2 ≠ .free := fun y hy e => by
  have := List.all_eq_true.mp h y hy
  rw [e] at this
  exact absurd this Bool.false_ne_true
theorem env_start {K : PySem.W.Frag} {α : List Addr} {H : Hp} {N : List Str} {np : Nat} {xs : List PV} {vs : List V} (r : PRs K α H xs vs []) (hl : xs.length = np) : EnvR K α H (xs.map some ++ List.replicate (N.length - np) none) (L2.start N vs) where
  len := by
    have := r.length
    simp [L2.start, ← this, hl]
  get := fun i x e => by
    have hv := r.length
    by_cases hi : i < xs.length
    · rw [List.getElem?_append_left (by rw [List.length_map]; exact hi), List.getElem?_map] at e
      cases q : xs[i]? with
      | none => rw [q] at e; cases e
      | some y =>
        rw [q] at e
        cases e
        obtain ⟨v, M, e1, r1, s⟩ := r.get q
        refine ⟨v, ?_, by have := List.eq_nil_of_sublist_nil s; rw [this] at r1; exact r1⟩
        unfold L2.start
        rw [List.getElem?_append_left (by rw [List.length_map, ← hv]; exact hi), List.getElem?_map, e1]
        rfl
    · rw [List.getElem?_append_right (by rw [List.length_map]; omega), List.getElem?_replicate] at e
      split at e <;> cases e
section
variable {P : Program} {w : World} {K : PySem.W.Frag} {mg : Str → Option Value} {base : Heap} {FT : List Fn} {S : List Stmt}
theorem ck_len {FT : List Fn} {t : Fn} {st : Stmt} (h : ckFn FT t st = true) : (t.N.take t.np).length = t.np := by
  unfold ckFn at h
  simp only [Bool.and_eq_true, decide_eq_true_eq] at h
  rw [List.length_take, Nat.min_eq_left h.1.1.1.2]
/-- THE TABLE: each checked def keeps the promise that its reading makes -/
theorem tab_ok (hF : ∀ (f : Nat) (t : Fn), FT[f]? = some t → ∃ st a fd, ckFn FT t st = true ∧ FnK K mg t st a fd) (hb : ∀ x ∈ bltAll, mg x = none) :
    ∀ (d f : Nat) (t : Fn) (st : Stmt) (a : Addr) (fd : FuncData), FT[f]? = some t → ckFn FT t st = true → FnK K mg t st a fd → FnOk P w K mg base CX0 d a fd (t.N.take t.np) (spC K (call FT d f) t.np) := by
  intro d
  induction d with
  | zero =>
    intro f t st a fd ht hc F
    refine ⟨fun vs H Q E hsp => ?_, fun A outer s H args us vs Q E hr e0 hbd hv hsp => ?_⟩ <;>
    · obtain ⟨B, α0, H0, α, h, xs, L, z, h', _, _, e, _⟩ := hsp
      cases e
  | succ d ih =>
    intro f t st a fd ht hc F
    have hc' := hc
    unfold ckFn at hc'
    simp only [Bool.and_eq_true, decide_eq_true_eq, Bool.not_eq_true'] at hc'
    obtain ⟨⟨⟨⟨⟨⟨⟨k1, k2⟩, k3⟩, k4⟩, k5⟩, k6⟩, k7⟩, k8⟩ := hc'
    have hk : (defScope st).kind = .function := by
      split at k1
      · assumption
      · cases k1
    have SC : FnScope t.N (t.N.take t.np) (defScope st) := ⟨hk, k2, k3, k4, by rw [ck_len hc], fun x hx => loc_of (List.all_eq_true.mp k6 x hx), nofree_of k7⟩
    refine F.fn.ok SC (fun vs H Q E hsp => ?_) fun cdv A outer s H vs Q E hr hsp => ?_
    · obtain ⟨B, α0, H0, α, h, xs, L, z, h', p, q, _⟩ := hsp
      rw [ck_len hc, ← q, p.rel.length]
    · obtain ⟨B, α0, H0, α, h, xs, L, z, h', p, q, e, wn⟩ := hsp
      unfold call at e
      rw [ht] at e
      dsimp only at e
      rw [if_pos q] at e
      obtain ⟨α1, p1, hix, hm⟩ := p.convs
      have hq : (convs xs h).1.length = t.np := p1.rel.length.trans (p.rel.length.symm.trans q)
      have sub : ∃ γ, α1 = α ++ γ := by
        refine ⟨α1.drop α.length, ?_⟩
        have : α1.take α.length = α := by
          refine List.ext_getElem? fun n => ?_
          by_cases hn : n < α.length
          · rw [List.getElem?_take_of_lt hn, List.getElem?_eq_getElem hn]
            exact hix n _ (List.getElem?_eq_getElem hn)
          · rw [List.getElem?_take_eq_none (Nat.le_of_not_lt hn), List.getElem?_eq_none (Nat.le_of_not_lt hn)]
        exact (this ▸ (List.take_append_drop α.length α1).symm : α1 = List.take α.length α1 ++ List.drop α.length α1).trans (by rw [this])
      obtain ⟨ex, hex⟩ := convs_pre xs h
      have good : Good K (h.length :: B) α1 (convs xs h).2 H := by
        refine ⟨p1.good.len, p1.good.nd, p1.good.cell, fun b hb => ?_⟩
        rcases List.mem_cons.mp hb with rfl | hb
        · refine ⟨by rw [hex, List.length_append]; omega, fun n c hn e1 => ?_⟩
          rw [hex, List.getElem?_append_left hn] at e1
          cases c with
          | lst ys =>
            have hn2 : n < α.length := by rw [p.good.len]; exact hn
            obtain ⟨us, _, _, r⟩ := p.good.cell n ys α[n] e1 (List.getElem?_eq_getElem hn2)
            have := PRs.lt _ _ _ r
            rw [p.good.len] at this
            exact this
        · exact p1.good.wf b hb
      have hB : ∀ b ∈ h.length :: B, b ≤ h.length := fun b hb => by
        rcases List.mem_cons.mp hb with rfl | hb
        · exact Nat.le_refl _
        · exact (p.good.wf b hb).1
      have x : XOk FT d t.N (defScope st) (defScope st) (cxOf CX0 P w K mg base t.N t.name (defScope st) a cdv A outer s H E).nox :=
        { calm := rfl, hN := rfl, nd := k4, hsc := rfl, kind := hk, room := hr, xe := rfl, bl := hb,
          fns := fun f t ht => by
            obtain ⟨st2, a2, fd2, hc2, F2⟩ := hF f t ht
            exact ⟨a2, fd2, F2.mg, F2.fn.kp, F2.bd, ck_len hc2, ih f t st2 a2 fd2 ht hc2 F2⟩,
          st := fun y hy => ⟨hy, .inl rfl⟩ }
      refine ⟨_, (snd_S (FT := FT) (d := d) (N := t.N) hB 60).ss _ _ x _ _ k8, ?_⟩
      have fin : ∀ (v : PV) (h2 : Hs), leave h.length v h2 = some (z, h') → ∀ α' H' u M, Psts K (h.length :: B) α1 H α' H' h2 [v] [u] M → Q u H' := fun v h2 e2 α' H' u M p2 => by
        have p3 : Psts K (h.length :: B) α0 H0 α' H' h2 [v] [u] M := p2.base p1.step
        obtain ⟨γ, hγ⟩ := sub
        obtain ⟨δ, hδ, _⟩ := p2.step.pre
        obtain ⟨M', p4⟩ := leave_ok p.good.len ⟨γ ++ δ, by rw [hδ, hγ, List.append_assoc]⟩ (by obtain ⟨β, hβ, _⟩ := p.step.pre; exact ⟨β, hβ⟩) (fun b hb => (p.good.wf b hb).1) p3 e2
        exact wn _ _ _ _ p4
      split at e
      · rename_i v h2 he
        exact ⟨_, α1, _, .rt v, h2, good, env_start p1.rel hq, he, fun α' H' u M p2 => fin v h2 e α' H' u M p2⟩
      · rename_i en h2 he
        exact ⟨_, α1, _, .nx en, h2, good, env_start p1.rel hq, he, fun α' H' σ' s' g er => fin _ h2 e α' H' .non [] ((Psts.nil g).base s' |>.to .nil (List.Sublist.refl _) |> fun p => ⟨p.step, p.good, .cons (.d .non) .nil, List.nodup_nil, fun _ z => absurd z List.not_mem_nil, fun _ z => absurd z List.not_mem_nil⟩)⟩
      · cases e
end
end Pe
/-! Pe: from the table to the law's row. -/
namespace Pe
open PySem PySem.Spec PyProof.Rows L2 RZ

def ckTab (FT : List Fn) : List Fn → List Stmt → Bool
  | [], [] => true
  | t :: ts, s :: ss => ckFn FT t s && ckTab FT ts ss
  | _, _ => false
/-- what stands behind the top, def by def -/
inductive Tab (K : PySem.W.Frag) (mg : Str → Option Value) : List Fn → List Stmt → Prop
  | nil : Tab K mg [] []
  | cons {t : Fn} {st : Stmt} {ts : List Fn} {ss : List Stmt} {a : Addr} {fd : FuncData} (h : FnK K mg t st a fd) (r : Tab K mg ts ss) : Tab K mg (t :: ts) (st :: ss)
theorem Tab.get {K : PySem.W.Frag} {mg : Str → Option Value} {FT : List Fn} : ∀ {ts : List Fn} {ss : List Stmt}, Tab K mg ts ss → ckTab FT ts ss = true → ∀ (f : Nat) (t : Fn), ts[f]? = some t → ∃ st a fd, ckFn FT t st = true ∧ FnK K mg t st a fd
  | _, _, .nil, _, f, t, e => by cases e
  | _, _, .cons h r, c, f, t, e => by
    unfold ckTab at c
    rw [Bool.and_eq_true] at c
    cases f with
    | zero =>
      cases e
      exact ⟨_, _, _, c.1, h⟩
    | succ f => exact r.get c.2 f t e
theorem fnK_mk {K : PySem.W.Frag} {h : Heap} {mg : Str → Option Value} {t : Fn} {st : Stmt} {f : Addr} {oc kV doc pm cdv ct : Value} {od an : Option Addr} {osl : Array (Option Value)} (X : K.In h) (G : h.Ns mainGlobals mg)
    (b : ∀ (kV doc pm : Value) (an : Option Addr) (cdv ct : Value) (us : List Value), us.length = (t.N.take t.np).length → bindArgs (PySem.W.fnOf t.name t.name (defArgs st) (defBody st) (defScope st) .none kV doc pm an cdv ct) ⟨us, []⟩ = pure ((t.N.take t.np).zip us))
    (a : PySem.W.nsIn K mainGlobals t.name = some (some (.ref f))) (l : K.lookup f = some ⟨oc, od, .func (PySem.W.fnOf t.name t.name (defArgs st) (defBody st) (defScope st) .none kV doc pm an cdv ct), osl⟩) (c : PySem.W.codeIn K cdv t.name = true) (k : PySem.W.keepIn K (.ref f) = true) :
    FnK K mg t st f (PySem.W.fnOf t.name t.name (defArgs st) (defBody st) (defScope st) .none kV doc pm an cdv ct) :=
  ⟨fun_mk l c k, PySem.W.mg_of X G a, (fun_mk l c k).binds b⟩
inductive Unbound (K : PySem.W.Frag) : List Str → Prop
  | nil : Unbound K []
  | cons {x : Str} {r : List Str} (h : PySem.W.nsIn K mainGlobals x = some none) (t : Unbound K r) : Unbound K (x :: r)
theorem bl_all {K : PySem.W.Frag} {h : Heap} {mg : Str → Option Value} (X : K.In h) (G : h.Ns mainGlobals mg) : ∀ {l : List Str}, Unbound K l → ∀ x ∈ l, mg x = none
  | _, .nil, x, hx => absurd hx List.not_mem_nil
  | _, .cons z r, x, hx => by
    rcases List.mem_cons.mp hx with rfl | hx
    · exact PySem.W.mg_none_of X G z
    · exact bl_all X G r x hx
/-- what walk_of asks, from the table -/
theorem tab_walk {P : Program} {w : World} {K : PySem.W.Frag} {mg : Str → Option Value} {fa : Addr} {FT : List Fn} {S : List Stmt} {D i : Nat} {t : Fn} (hmg : mg t.name = some (.ref fa)) (T : Tab K mg FT S) (C : ckTab FT FT S = true) (B : ∀ x ∈ bltAll, mg x = none) (hi : FT[i]? = some t) (hp : t.N.take t.np = [Str.ofString "script"]) (hn : t.np = 1)
    (hb : ∀ (kV doc pm : Value) (an : Option Addr) (cdv ct : Value) (st : Stmt) (v : Value), S[i]? = some st → bindArgs (PySem.W.fnOf t.name t.name (defArgs st) (defBody st) (defScope st) .none kV doc pm an cdv ct) ⟨[v], []⟩ = pure [(Str.ofString "script", v)]) :
    ∃ fd : FuncData, (∀ (s : Shared) (u : Value), BindsTo s fd ⟨[u], []⟩ [(Str.ofString "script", u)]) ∧ ∀ base : Heap, K.In base → base.Ns mainGlobals mg → FnOk P w K mg base CX0 D fa fd [Str.ofString "script"] (spC K (call FT D i) 1) := by
  have key : ∀ {ts : List Fn} {ss : List Stmt}, Tab K mg ts ss → ckTab FT ts ss = true → ∀ (f : Nat), ts[f]? = some t → ∃ st a fd, ss[f]? = some st ∧ ckFn FT t st = true ∧ FnK K mg t st a fd := by
    intro ts ss T
    induction T with
    | nil => intro _ f e; cases e
    | cons h r ih =>
      intro c f e
      unfold ckTab at c
      rw [Bool.and_eq_true] at c
      cases f with
      | zero => cases e; exact ⟨_, _, _, rfl, c.1, h⟩
      | succ f => exact ih c.2 f e
  obtain ⟨st, a, fd, es, hc, F⟩ := key T C i hi
  obtain rfl : fa = a := by
    have := hmg.symm.trans F.mg
    cases this
    rfl
  refine ⟨fd, ?_, fun base _ _ => ?_⟩
  · obtain ⟨oc, od, kV, doc, pm, an, cdv, ct, osl, rfl, lk, hcd⟩ := F.fn.ex
    exact fun s u => .of_eq (hb _ _ _ _ _ _ st u es)
  · have ok := tab_ok (P := P) (w := w) (base := base) (T.get C) B D i t st fa fd hi hc F
    rw [hp, hn] at ok
    exact ok
theorem law_sp {K : PySem.W.Frag} {FT : List Fn} {D i : Nat} (law : ∀ ns : List Int, ns.length ≤ 63 → ∃ h, call FT D i [.fl (ns.map .int)] [] = some (.d (.bl true), h)) (H : Hp) (a : Addr) (ns : List Int) (hl : ns.length ≤ 63) (hO : L2.Only H) (hS : SqL K H a (ns.map V.int)) :
    spC K (call FT D i) 1 [.ref a] H (fun v _ => v = .bl true) fun _ _ _ => False := by
  obtain ⟨h, e⟩ := law ns hl
  have fz : FzL K H a (ns.map V.int) := by
    rcases hS with (z | ⟨o, z⟩) | z
    · rcases hO a with q | ⟨o, xs, q⟩
      · rw [q] at z; cases z
      · rw [q] at z; cases z
    · exact .inl ⟨o, z⟩
    · exact .inr z
  have rs : ∀ ns : List Int, DRs K H (ns.map .int) (ns.map V.int) := fun ns => by
    induction ns with
    | nil => exact .nil
    | cons n ns ih => exact .cons (.int n) ih
  refine ⟨[], [], H, [], [], [.fl (ns.map .int)], [], .d (.bl true), h, ⟨.refl, ⟨rfl, List.nodup_nil, fun n xs a e => (nomatch e), fun b hb => absurd hb List.not_mem_nil⟩, .cons (.fl fz (by rw [List.length_map]; exact Nat.le_trans hl (by decide)) (rs ns)) .nil, List.nodup_nil, fun _ z => absurd z List.not_mem_nil, fun _ z => absurd z List.not_mem_nil⟩, rfl, e, fun α H' v L p => bl_of p⟩
end Pe
/-! Pe: reasoning about the evaluator: weakest preconditions, and the rules that simp takes. -/
namespace Pe.Pw
open PySem

structure Wp {α : Type} (m : M α) (h : Hs) (Q : α → Hs → Prop) : Prop where
  ex : ∃ a h1, m h = some (a, h1) ∧ Q a h1
section
variable {α β : Type} {h : Hs} {cf : Nat → List PV → M PV} {fb : Nat} {env : Env}
theorem wp_eq {m : M α} {a : α} {h1 : Hs} {Q : α → Hs → Prop} (e : m h = some (a, h1)) (q : Q a h1) : Wp m h Q := ⟨a, h1, e, q⟩
theorem wp_some {m : M α} {Q : α → Hs → Prop} (w : Wp m h Q) : ∃ a h1, m h = some (a, h1) ∧ Q a h1 := w.ex
theorem w_iff {m : M α} {a : α} {h1 : Hs} {Q : α → Hs → Prop} (e : m h = some (a, h1)) : Wp m h Q ↔ Q a h1 :=
  ⟨fun q => by obtain ⟨_, _, e2, q⟩ := wp_some q; rw [e] at e2; cases e2; exact q, fun q => wp_eq e q⟩
theorem w_no {m : M α} {Q : α → Hs → Prop} (e : m h = none) : ¬ Wp m h Q := fun w => by
  obtain ⟨_, _, e2, _⟩ := w.ex
  rw [e] at e2
  cases e2
theorem w_same {m m2 : M α} {h2 : Hs} {Q : α → Hs → Prop} (e : m h = m2 h2) : Wp m h Q ↔ Wp m2 h2 Q := by
  constructor
  · rintro ⟨a, h1, e1, q⟩
    exact ⟨a, h1, e ▸ e1, q⟩
  · rintro ⟨a, h1, e1, q⟩
    exact ⟨a, h1, e.trans e1, q⟩
theorem wp_imp {m : M α} {Q R : α → Hs → Prop} (w : Wp m h Q) (i : ∀ a h1, Q a h1 → R a h1) : Wp m h R := by
  obtain ⟨a, h1, e, q⟩ := wp_some w
  exact wp_eq e (i _ _ q)
theorem wp_cond {c : Prop} [Decidable c] {a : α} {h1 : Hs} {R : α → Hs → Prop} {m : M α} (e : m h = if c then some (a, h1) else none) : Wp m h R ↔ c ∧ R a h1 := by
  by_cases hc : c
  · rw [if_pos hc] at e
    exact ⟨fun q => ⟨hc, by
      obtain ⟨b, h2, e2, q⟩ := wp_some q
      rw [e] at e2
      cases e2
      exact q⟩, fun q => wp_eq e q.2⟩
  · rw [if_neg hc] at e
    refine ⟨fun q => ?_, fun q => absurd q.1 hc⟩
    obtain ⟨b, h2, e2, q⟩ := wp_some q
    rw [e] at e2
    cases e2
theorem w_ret {a : α} {Q : α → Hs → Prop} : Wp (M.ret a) h Q ↔ Q a h := w_iff rfl
theorem w_bnd {m : M α} {f : α → M β} {Q : β → Hs → Prop} : Wp (M.bnd m f) h Q ↔ Wp m h fun a h1 => Wp (f a) h1 Q := by
  cases e : m h with
  | none =>
    have e2 : M.bnd m f h = none := by
      unfold M.bnd
      rw [e]
    exact ⟨fun w => absurd w (w_no e2), fun w => absurd w (w_no e)⟩
  | some r =>
    obtain ⟨a, h1⟩ := r
    have e2 : M.bnd m f h = f a h1 := by
      unfold M.bnd
      rw [e]
    exact (w_same e2).trans (w_iff (Q := fun a h1 => Wp (f a) h1 Q) e).symm
theorem w_of {a : α} {Q : α → Hs → Prop} : Wp (M.of (some a)) h Q ↔ Q a h := w_iff rfl
theorem w_ite {b : Bool} {m m2 : M α} {Q : α → Hs → Prop} : Wp (if b = true then m else m2) h Q ↔ (b = true → Wp m h Q) ∧ (b = false → Wp m2 h Q) := by
  cases b <;> simp
def getV : Env → Nat → Option PV
  | [], _ => none
  | x :: _, 0 => x
  | _ :: r, i + 1 => getV r i
theorem getV_eq : ∀ (env : Env) (i : Nat), (match env[i]? with
    | some (some v) => some v
    | _ => none) = getV env i
  | [], i => rfl
  | x :: r, 0 => by cases x <;> rfl
  | x :: r, i + 1 => getV_eq r i
theorem getV_0 {x : Option PV} {r : Env} : getV (x :: r) 0 = x := rfl
theorem getV_s {x : Option PV} {r : Env} {i : Nat} : getV (x :: r) (i + 1) = getV r i := rfl
variable {Q : PV → Hs → Prop}
theorem w_var {i : Nat} : Wp (evE cf fb (.var i) env) h Q ↔ Wp (M.of (getV env i)) h Q := by
  rw [← getV_eq]
  exact w_same rfl
theorem w_cst {c : D} : Wp (evE cf fb (.cst c) env) h Q ↔ Q (.d c) h := w_iff rfl
theorem w_bin {o : BOp} {a b : E} : Wp (evE cf fb (.bin o a b) env) h Q ↔ Wp (evE cf fb a env) h fun x h => Wp (evE cf fb b env) h fun y h => Wp (binV o x y) h Q := by
  show Wp (M.bnd _ _) h Q ↔ _
  simp only [w_bnd]
theorem w_un {o : UOp} {a : E} : Wp (evE cf fb (.un o a) env) h Q ↔ Wp (evE cf fb a env) h fun x h => Wp (unV o x) h Q := w_bnd
theorem w_nt {a : E} : Wp (evE cf fb (.nt a) env) h Q ↔ Wp (evE cf fb a env) h fun x h => Wp (boolV x) h fun b h => Q (.d (.bl (!b))) h := by
  show Wp (M.bnd _ _) h Q ↔ _
  simp only [w_bnd, w_ret]
theorem w_an {a b : E} : Wp (evE cf fb (.an a b) env) h Q ↔ Wp (evE cf fb a env) h fun x h => Wp (boolV x) h fun c h => (c = true → Wp (evE cf fb b env) h Q) ∧ (c = false → Q (.d (.bl false)) h) := by
  show Wp (M.bnd _ _) h Q ↔ _
  simp only [w_bnd, w_ret, w_ite]
theorem w_orr {a b : E} : Wp (evE cf fb (.orr a b) env) h Q ↔ Wp (evE cf fb a env) h fun x h => Wp (boolV x) h fun c h => (c = true → Q (.d (.bl true)) h) ∧ (c = false → Wp (evE cf fb b env) h Q) := by
  show Wp (M.bnd _ _) h Q ↔ _
  simp only [w_bnd, w_ret, w_ite]
theorem w_cmp {o : COp} {a b : E} : Wp (evE cf fb (.cmp o a b) env) h Q ↔ Wp (evE cf fb a env) h fun x h => Wp (evE cf fb b env) h fun y h => Wp (cmpV o x y) h fun c h => Q (.d (.bl c)) h := by
  show Wp (M.bnd _ _) h Q ↔ _
  simp only [w_bnd, w_ret]
theorem w_chn {o p : COp} {a b c : E} : Wp (evE cf fb (.chn o p a b c) env) h Q ↔ Wp (evE cf fb a env) h fun x h => Wp (evE cf fb b env) h fun y h => Wp (cmpV o x y) h fun k h =>
    (k = true → Wp (evE cf fb c env) h fun z h => Wp (cmpV p y z) h fun l h => Q (.d (.bl l)) h) ∧ (k = false → Q (.d (.bl false)) h) := by
  show Wp (M.bnd _ _) h Q ↔ _
  simp only [w_bnd, w_ret, w_ite]
theorem w_ifx {c a b : E} : Wp (evE cf fb (.ifx c a b) env) h Q ↔ Wp (evE cf fb c env) h fun x h => Wp (boolV x) h fun k h => (k = true → Wp (evE cf fb a env) h Q) ∧ (k = false → Wp (evE cf fb b env) h Q) := by
  show Wp (M.bnd _ _) h Q ↔ _
  simp only [w_bnd, w_ret, w_ite]
theorem w_call {f : Nat} {as : List E} : Wp (evE cf fb (.call f as) env) h Q ↔ Wp (evEs cf fb as env) h fun xs h => Wp (cf f xs) h Q := w_bnd
theorem w_blt {f : Blt} {as : List E} : Wp (evE cf fb (.blt f as) env) h Q ↔ Wp (evEs cf fb as env) h fun xs h => Wp (bltV f xs) h Q := w_bnd
theorem w_mth {m : Mth} {o : E} {as : List E} : Wp (evE cf fb (.mth m o as) env) h Q ↔ Wp (evE cf fb o env) h fun x h => Wp (evEs cf fb as env) h fun xs h => Wp (mthV fb m x xs) h Q := by
  show Wp (M.bnd _ _) h Q ↔ _
  simp only [w_bnd]
theorem w_tup {as : List E} : Wp (evE cf fb (.tup as) env) h Q ↔ Wp (evEs cf fb as env) h fun xs h => xs.length ≤ sizeLine ∧ Q (mkTup xs) h := by
  show Wp (M.bnd _ _) h Q ↔ _
  rw [w_bnd]
  have : ∀ xs h, Wp (if xs.length ≤ sizeLine then M.ret (mkTup xs) else M.no) h Q ↔ (xs.length ≤ sizeLine ∧ Q (mkTup xs) h) := fun xs h => by
    split
    · rename_i z; exact ⟨fun q => ⟨z, w_ret.mp q⟩, fun q => w_ret.mpr q.2⟩
    · rename_i z; exact ⟨fun q => absurd q (w_no rfl), fun q => absurd q.1 z⟩
  simp only [this]
theorem w_lst {as : List E} : Wp (evE cf fb (.lst as) env) h Q ↔ Wp (evEs cf fb as env) h fun xs h => xs.length ≤ sizeLine ∧ Q (.tl xs) h := by
  show Wp (M.bnd _ _) h Q ↔ _
  rw [w_bnd]
  have : ∀ xs h, Wp (if xs.length ≤ sizeLine then M.ret (.tl xs) else M.no) h Q ↔ (xs.length ≤ sizeLine ∧ Q (.tl xs) h) := fun xs h => by
    split
    · rename_i z; exact ⟨fun q => ⟨z, w_ret.mp q⟩, fun q => w_ret.mpr q.2⟩
    · rename_i z; exact ⟨fun q => absurd q (w_no rfl), fun q => absurd q.1 z⟩
  simp only [this]
theorem w_idx {a i : E} : Wp (evE cf fb (.idx a i) env) h Q ↔ Wp (evE cf fb a env) h fun x h => Wp (evE cf fb i env) h fun y h => Wp (idxV x y) h Q := by
  show Wp (M.bnd _ _) h Q ↔ _
  simp only [w_bnd]
def slcM (f1 f2 : Bool) (x l u : PV) : M PV := match optI f1 l, optI f2 u with
  | some l, some u => sliceV x l u
  | _, _ => M.no
theorem w_slc {f1 f2 : Bool} {a lo hi : E} : Wp (evE cf fb (.slc f1 f2 a lo hi) env) h Q ↔ Wp (evE cf fb a env) h fun x h => Wp (if f1 = true then evE cf fb lo env else M.ret (.d .non)) h fun l h => Wp (if f2 = true then evE cf fb hi env else M.ret (.d .non)) h fun u h => Wp (slcM f1 f2 x l u) h Q := by
  have e : evE cf fb (.slc f1 f2 a lo hi) env = M.bnd (evE cf fb a env) fun x => M.bnd (if f1 = true then evE cf fb lo env else M.ret (.d .non)) fun l => M.bnd (if f2 = true then evE cf fb hi env else M.ret (.d .non)) fun u => slcM f1 f2 x l u := rfl
  rw [e]
  simp only [w_bnd]
theorem slc_tt {x : PV} {l u : Int} : slcM true true x (.d (.int l)) (.d (.int u)) = sliceV x (some l) (some u) := rfl
theorem slc_tf {x u : PV} {l : Int} : slcM true false x (.d (.int l)) u = sliceV x (some l) none := rfl
theorem slc_ft {x l : PV} {u : Int} : slcM false true x l (.d (.int u)) = sliceV x none (some u) := rfl
theorem slc_ff {x l u : PV} : slcM false false x l u = sliceV x none none := rfl
theorem w_nil {Q : List PV → Hs → Prop} : Wp (evEs cf fb [] env) h Q ↔ Q [] h := w_iff rfl
theorem w_cons {e : E} {es : List E} {Q : List PV → Hs → Prop} : Wp (evEs cf fb (e :: es) env) h Q ↔ Wp (evE cf fb e env) h fun x h => Wp (evEs cf fb es env) h fun xs h => Q (x :: xs) h := by
  show Wp (M.bnd _ _) h Q ↔ _
  simp only [w_bnd, w_ret]
/-! statements -/
variable {F : Fl → Hs → Prop}
theorem w_snil : Wp (evSs cf fb [] env) h F ↔ F (.nx env) h := w_iff rfl
/-- what comes behind a statement -/
def Thn (cf : Nat → List PV → M PV) (fb : Nat) (r : List S) (F : Fl → Hs → Prop) (f : Fl) (h : Hs) : Prop := match f with
  | .nx e => Wp (evSs cf fb r e) h F
  | f => F f h
theorem w_scons {s : S} {r : List S} : Wp (evSs cf fb (s :: r) env) h F ↔ Wp (evS cf fb s env) h (Thn cf fb r F) := by
  refine w_bnd.trans (iff_of_eq ?_)
  congr 1
  funext f h
  cases f with
  | nx e => rfl
  | _ => exact propext w_ret
theorem thn_nx {r : List S} {e : Env} : Thn cf fb r F (.nx e) h ↔ Wp (evSs cf fb r e) h F := Iff.rfl
theorem thn_rt {r : List S} {v : PV} : Thn cf fb r F (.rt v) h ↔ F (.rt v) h := Iff.rfl
theorem thn_bk {r : List S} {e : Env} : Thn cf fb r F (.bk e) h ↔ F (.bk e) h := Iff.rfl
theorem thn_ct {r : List S} {e : Env} : Thn cf fb r F (.ct e) h ↔ F (.ct e) h := Iff.rfl
theorem w_asg {t : T} {e : E} : Wp (evS cf fb (.asg t e) env) h F ↔ Wp (evE cf fb e env) h fun v h => Wp (bindT t v env) h fun e h => F (.nx e) h := by
  show Wp (M.bnd _ _) h F ↔ _
  simp only [w_bnd, w_ret]
theorem w_sub {o i e : E} : Wp (evS cf fb (.sub o i e) env) h F ↔ Wp (evE cf fb e env) h fun v h => Wp (evE cf fb o env) h fun x h => Wp (evE cf fb i env) h fun y h => Wp (setV fb x y v) h fun _ h => F (.nx env) h := by
  show Wp (M.bnd _ _) h F ↔ _
  simp only [w_bnd, w_ret]
theorem w_par {i j : Nat} {a b : E} : Wp (evS cf fb (.par i j a b) env) h F ↔ Wp (evE cf fb a env) h fun x h => Wp (evE cf fb b env) h fun y h => Wp (bindT (.nm j) y env) h fun e1 h => Wp (bindT (.nm i) x e1) h fun e2 h => F (.nx e2) h := by
  show Wp (M.bnd _ _) h F ↔ _
  simp only [w_bnd, w_ret]
theorem w_aug {i : Nat} {o : BOp} {e : E} : Wp (evS cf fb (.aug i o e) env) h F ↔ Wp (evE cf fb (.var i) env) h fun x h => Wp (evE cf fb e env) h fun y h => Wp (augV o x y) h fun z h => Wp (bindT (.nm i) z env) h fun e1 h => F (.nx e1) h := by
  show Wp (M.bnd _ _) h F ↔ _
  simp only [w_bnd, w_ret]
theorem w_ex {e : E} : Wp (evS cf fb (.ex e) env) h F ↔ Wp (evE cf fb e env) h fun _ h => F (.nx env) h := by
  show Wp (M.bnd _ _) h F ↔ _
  simp only [w_bnd, w_ret]
theorem w_rt {e : E} : Wp (evS cf fb (.ret e) env) h F ↔ Wp (evE cf fb e env) h fun v h => F (.rt v) h := by
  show Wp (M.bnd _ _) h F ↔ _
  simp only [w_bnd, w_ret]
theorem w_rtn : Wp (evS cf fb .retn env) h F ↔ F (.rt (.d .non)) h := w_iff rfl
theorem w_ife {c : E} {a b : List S} : Wp (evS cf fb (.ife c a b) env) h F ↔ Wp (evE cf fb c env) h fun x h => Wp (boolV x) h fun k h => (k = true → Wp (evSs cf fb a env) h F) ∧ (k = false → Wp (evSs cf fb b env) h F) := by
  show Wp (M.bnd _ _) h F ↔ _
  simp only [w_bnd, w_ite]
theorem w_brk : Wp (evS cf fb .brk env) h F ↔ F (.bk env) h := w_iff rfl
theorem w_cnt : Wp (evS cf fb .cnt env) h F ↔ F (.ct env) h := w_iff rfl
theorem w_pas : Wp (evS cf fb .pas env) h F ↔ F (.nx env) h := w_iff rfl
theorem w_fr {t : T} {it : It} {b : List S} : Wp (evS cf fb (.fr t it b) env) h F ↔ Wp (evIt cf fb it env) h fun iv h => Wp (floop t (evSs cf fb b) iv (iv.fuel h) 0 env) h F := by
  refine w_bnd.trans (iff_of_eq ?_)
  congr 1
  funext iv h
  exact propext (w_same rfl)
/-! targets -/
def setE : Env → Nat → PV → Env
  | [], _, _ => []
  | _ :: r, 0, v => some v :: r
  | x :: r, i + 1, v => x :: setE r i v
theorem setE_eq : ∀ (env : Env) (i : Nat) (v : PV), env.set i (some v) = setE env i v
  | [], _, _ => rfl
  | _ :: _, 0, _ => rfl
  | x :: r, i + 1, v => by show x :: r.set i (some v) = _; rw [setE_eq r i v]; rfl
theorem setE_0 {x : Option PV} {r : Env} {v : PV} : setE (x :: r) 0 v = some v :: r := rfl
theorem setE_s {x : Option PV} {r : Env} {i : Nat} {v : PV} : setE (x :: r) (i + 1) v = x :: setE r i v := rfl
variable {G : Env → Hs → Prop}
theorem w_nm {i : Nat} {v : PV} : Wp (bindT (.nm i) v env) h G ↔ i < env.length ∧ G (setE env i (conv v h).1) (conv v h).2 := by
  rw [← setE_eq]
  exact wp_cond rfl
theorem w_tg {ts : List T} {v : PV} {xs : List PV} (e : tupOf v = some xs) : Wp (bindT (.tup ts) v env) h G ↔ Wp (bindTs ts xs env) h G := by
  have : bindT (.tup ts) v env = bindTs ts xs env := by
    show (match tupOf v with
      | some xs => bindTs ts xs env
      | none => M.no) = _
    rw [e]
  rw [this]
theorem w_tgd {ts : List T} {xs : List D} : Wp (bindT (.tup ts) (.d (.tup xs)) env) h G ↔ Wp (bindTs ts (xs.map .d) env) h G := w_tg rfl
theorem w_tgm {ts : List T} {xs : List PV} : Wp (bindT (.tup ts) (.mt xs) env) h G ↔ Wp (bindTs ts xs env) h G := w_tg rfl
theorem w_tgnil : Wp (bindTs [] [] env) h G ↔ G env h := w_iff rfl
theorem w_tgcons {t : T} {ts : List T} {x : PV} {xs : List PV} : Wp (bindTs (t :: ts) (x :: xs) env) h G ↔ Wp (bindT t x env) h fun env h => Wp (bindTs ts xs env) h G := w_bnd
theorem conv_d {x : D} : conv (.d x) h = (.d x, h) := rfl
theorem conv_fl {x : List D} : conv (.fl x) h = (.fl x, h) := rfl
theorem conv_ref {n : Nat} : conv (.ref n) h = (.ref n, h) := rfl
theorem convs_ds : ∀ {xs : List D} {h : Hs}, convs (xs.map .d) h = (xs.map .d, h)
  | [], _ => rfl
  | x :: xs, h => by
    show ((.d x :: (convs (xs.map .d) h).1 : List PV), (convs (xs.map .d) h).2) = _
    rw [convs_ds]
    rfl
theorem conv_tld {xs : List D} : conv (.tl (xs.map .d)) h = (.ref h.length, h ++ [.lst (xs.map .d)]) := by
  show ((.ref (convs (xs.map .d) h).2.length : PV), (convs (xs.map .d) h).2 ++ [Cell.lst (convs (xs.map .d) h).1]) = _
  rw [convs_ds]
theorem conv_tl0 : conv (.tl []) h = (.ref h.length, h ++ [.lst []]) := rfl
theorem convs_nil : convs [] h = ([], h) := rfl
theorem convs_cons {x : PV} {xs : List PV} : convs (x :: xs) h = ((conv x h).1 :: (convs xs (conv x h).2).1, (convs xs (conv x h).2).2) := rfl
/-! operators -/
theorem w_add {i j : Int} : Wp (binV .add (.d (.int i)) (.d (.int j))) h Q ↔ Q (.d (.int (i + j))) h := w_iff rfl
theorem w_subI {i j : Int} : Wp (binV .sub (.d (.int i)) (.d (.int j))) h Q ↔ Q (.d (.int (i - j))) h := w_iff rfl
theorem w_mul {i j : Int} : Wp (binV .mul (.d (.int i)) (.d (.int j))) h Q ↔ (mulOk i j = true) ∧ Q (.d (.int (i * j))) h := wp_cond rfl
theorem w_fdiv {i j : Int} : Wp (binV .fdiv (.d (.int i)) (.d (.int j))) h Q ↔ (j ≠ 0 ∧ j.natAbs < 1073741824) ∧ Q (.d (.int (i.fdiv j))) h := wp_cond rfl
theorem w_mod {i j : Int} : Wp (binV .mod (.d (.int i)) (.d (.int j))) h Q ↔ (j ≠ 0) ∧ Q (.d (.int (i.fmod j))) h := wp_cond rfl
theorem w_pow {i j : Int} : Wp (binV .pow (.d (.int i)) (.d (.int j))) h Q ↔ (0 ≤ j ∧ j ≤ 1000000 ∧ i.natAbs < 2 ^ 64) ∧ Q (.d (.int (i ^ j.toNat))) h := wp_cond rfl
theorem w_shl {i j : Int} : Wp (binV .shl (.d (.int i)) (.d (.int j))) h Q ↔ (0 ≤ j ∧ j ≤ 1000000 ∧ i.natAbs < 2 ^ 64) ∧ Q (.d (.int (i * 2 ^ j.toNat))) h := wp_cond rfl
theorem w_addS {a b : Str} : Wp (binV .add (.d (.str a)) (.d (.str b))) h Q ↔ (a.length + b.length ≤ sizeLine) ∧ Q (.d (.str (a ++ b))) h := wp_cond rfl
theorem w_addT {a b : List D} : Wp (binV .add (.d (.tup a)) (.d (.tup b))) h Q ↔ (a.length + b.length ≤ sizeLine) ∧ Q (.d (.tup (a ++ b))) h := wp_cond rfl
theorem w_addL {a b : List PV} : Wp (binV .add (.tl a) (.tl b)) h Q ↔ (a.length + b.length ≤ sizeLine) ∧ Q (.tl (a ++ b)) h := wp_cond rfl
theorem w_augI {i j : Int} : Wp (augV .add (.d (.int i)) (.d (.int j))) h Q ↔ Q (.d (.int (i + j))) h := w_iff rfl
theorem w_augS {i j : Int} : Wp (augV .sub (.d (.int i)) (.d (.int j))) h Q ↔ Q (.d (.int (i - j))) h := w_iff rfl
theorem w_neg {i : Int} : Wp (unV .neg (.d (.int i))) h Q ↔ Q (.d (.int (-i))) h := w_iff rfl
variable {R : Bool → Hs → Prop}
theorem w_bool {b : Bool} : Wp (boolV (.d (.bl b))) h R ↔ R b h := w_iff rfl
theorem w_lt {i j : Int} : Wp (cmpV .lt (.d (.int i)) (.d (.int j))) h R ↔ R (decide (i < j)) h := w_iff rfl
theorem w_le {i j : Int} : Wp (cmpV .le (.d (.int i)) (.d (.int j))) h R ↔ R (decide (i ≤ j)) h := w_iff rfl
theorem w_gt {i j : Int} : Wp (cmpV .gt (.d (.int i)) (.d (.int j))) h R ↔ R (decide (j < i)) h := w_iff rfl
theorem w_ge {i j : Int} : Wp (cmpV .ge (.d (.int i)) (.d (.int j))) h R ↔ R (decide (j ≤ i)) h := w_iff rfl
theorem beq_dec {a b : Int} : (a == b) = decide (a = b) := by
  by_cases h : a = b
  · rw [decide_eq_true h, h]; exact beq_self_eq_true b
  · rw [decide_eq_false h]; exact beq_eq_false_iff_ne.mpr h
theorem w_eqI {i j : Int} : Wp (cmpV .eq (.d (.int i)) (.d (.int j))) h R ↔ R (decide (i = j)) h := by
  rw [← beq_dec]; exact w_iff rfl
theorem w_neI {i j : Int} : Wp (cmpV .ne (.d (.int i)) (.d (.int j))) h R ↔ R (decide (i ≠ j)) h := by
  have : decide (i ≠ j) = !(i == j) := by rw [beq_dec]; simp
  rw [this]; exact w_iff rfl
theorem w_eqB {i j : Bool} : Wp (cmpV .eq (.d (.bl i)) (.d (.bl j))) h R ↔ R (i == j) h := w_iff rfl
theorem w_neB {i j : Bool} : Wp (cmpV .ne (.d (.bl i)) (.d (.bl j))) h R ↔ R (!(i == j)) h := w_iff rfl
theorem w_isnN : Wp (cmpV .isN (.d .non) (.d .non)) h R ↔ R true h := w_iff rfl
theorem w_notnN : Wp (cmpV .notN (.d .non) (.d .non)) h R ↔ R false h := w_iff rfl
theorem w_isnI {i : Int} : Wp (cmpV .isN (.d (.int i)) (.d .non)) h R ↔ R false h := w_iff rfl
theorem w_notnI {i : Int} : Wp (cmpV .notN (.d (.int i)) (.d .non)) h R ↔ R true h := w_iff rfl
theorem w_isnT {i : List D} : Wp (cmpV .isN (.d (.tup i)) (.d .non)) h R ↔ R false h := w_iff rfl
theorem w_notnT {i : List D} : Wp (cmpV .notN (.d (.tup i)) (.d .non)) h R ↔ R true h := w_iff rfl
theorem w_isnS {i : Str} : Wp (cmpV .isN (.d (.str i)) (.d .non)) h R ↔ R false h := w_iff rfl
def isNon : D → Bool
  | .non => true
  | _ => false
theorem w_isn {x : D} : Wp (cmpV .isN (.d x) (.d .non)) h R ↔ R (isNon x) h := by cases x <;> exact w_iff rfl
theorem w_notn {x : D} : Wp (cmpV .notN (.d x) (.d .non)) h R ↔ R (!isNon x) h := by cases x <;> exact w_iff rfl
end
end Pe.Pw
/-! Pe: weakest preconditions: builtins, methods, walks, calls. -/
namespace Pe.Pw
open PySem
section
variable {α β : Type} {h : Hs} {cf : Nat → List PV → M PV} {fb : Nat} {env : Env} {Q : PV → Hs → Prop} {R : Bool → Hs → Prop} {F : Fl → Hs → Prop}
/-! builtins -/
theorem w_isiD {ts : List Ty} {x : D} : Wp (bltV (.isi ts) [.d x]) h Q ↔ Q (.d (.bl (ts.any fun t => tyIs h (.d x) t))) h := w_iff rfl
theorem w_isiT {ts : List Ty} {x : List PV} : Wp (bltV (.isi ts) [.tl x]) h Q ↔ Q (.d (.bl (ts.any fun t => tyIs h (.tl x) t))) h := w_iff rfl
theorem w_isiR {ts : List Ty} {x : Nat} : Wp (bltV (.isi ts) [.ref x]) h Q ↔ Q (.d (.bl (ts.any fun t => tyIs h (.ref x) t))) h := w_iff rfl
theorem w_isiF {ts : List Ty} {x : List D} : Wp (bltV (.isi ts) [.fl x]) h Q ↔ Q (.d (.bl (ts.any fun t => tyIs h (.fl x) t))) h := w_iff rfl
theorem w_isiM {ts : List Ty} {x : List PV} : Wp (bltV (.isi ts) [.mt x]) h Q ↔ Q (.d (.bl (ts.any fun t => tyIs h (.mt x) t))) h := w_iff rfl
theorem w_lenT {ds : List D} : Wp (bltV .len [.d (.tup ds)]) h Q ↔ Q (.d (.int ds.length)) h := by
  have e : bltV .len [.d (.tup ds)] h = some (.d (.int (ds.map PV.d).length), h) := rfl
  rw [List.length_map] at e
  exact ⟨fun q => by obtain ⟨_, _, e2, q⟩ := wp_some q; rw [e] at e2; cases e2; exact q, fun q => wp_eq e q⟩
theorem lstOf_ref {n : Nat} {a : List PV} (e : h[n]? = some (.lst a)) : lstOf (.ref n) h = some a := by
  show (match h[n]? with
    | some (.lst xs) => some xs
    | none => none) = _
  rw [e]
theorem seqOf_ref {n : Nat} {a : List PV} (e : h[n]? = some (.lst a)) : seqOf (.ref n) h = some a := lstOf_ref e
theorem w_lenR {n : Nat} {a : List PV} (e : h[n]? = some (.lst a)) : Wp (bltV .len [.ref n]) h Q ↔ Q (.d (.int a.length)) h := by
  refine w_iff ?_
  show (match seqOf (.ref n) h with
    | some xs => some (PV.d (.int xs.length), h)
    | none => none) = _
  rw [seqOf_ref e]
theorem w_lenL {a : List PV} : Wp (bltV .len [.tl a]) h Q ↔ Q (.d (.int a.length)) h := w_iff rfl
theorem allD_ds : ∀ ds : List D, allD (ds.map .d) = some ds := allD_map
theorem mkTup_ds (ds : List D) : mkTup (ds.map .d) = .d (.tup ds) := by
  unfold mkTup
  rw [allD_ds]
theorem mkTup_nil : mkTup [] = .d (.tup []) := rfl
theorem w_tupL {a : List PV} : Wp (bltV .tuple [.tl a]) h Q ↔ Q (mkTup a) h := w_iff rfl
theorem w_tupR {n : Nat} {a : List PV} (e : h[n]? = some (.lst a)) : Wp (bltV .tuple [.ref n]) h Q ↔ Q (mkTup a) h := by
  refine w_iff ?_
  show (match seqOf (.ref n) h with
    | some xs => some (mkTup xs, h)
    | none => none) = _
  rw [seqOf_ref e]
theorem w_listR {n : Nat} {a : List PV} (e : h[n]? = some (.lst a)) : Wp (bltV .list [.ref n]) h Q ↔ Q (.tl a) h := by
  refine w_iff ?_
  show (match seqOf (.ref n) h with
    | some xs => some (PV.tl xs, h)
    | none => none) = _
  rw [seqOf_ref e]
theorem w_listT {ds : List D} : Wp (bltV .list [.d (.tup ds)]) h Q ↔ Q (.tl (ds.map .d)) h := w_iff rfl
theorem boolsOf_map (bs : List Bool) : boolsOf (bs.map fun b => .d (.bl b)) = some bs := by
  induction bs with
  | nil => rfl
  | cons b bs ih =>
    show (match boolsOf (bs.map fun b => PV.d (.bl b)) with
      | some bs => some (b :: bs)
      | none => none) = _
    rw [ih]
theorem intsOf_map (bs : List Int) : intsOf (bs.map fun b => .d (.int b)) = some bs := by
  induction bs with
  | nil => rfl
  | cons b bs ih =>
    show (match intsOf (bs.map fun b => PV.d (.int b)) with
      | some bs => some (b :: bs)
      | none => none) = _
    rw [ih]
theorem w_all {bs : List Bool} : Wp (bltV .all [.tl (bs.map fun b => .d (.bl b))]) h Q ↔ Q (.d (.bl (bs.all id))) h := by
  refine w_iff ?_
  show (boolsOf (bs.map fun b => PV.d (.bl b))).map (fun bs => (PV.d (.bl (bs.all id)), h)) = _
  rw [boolsOf_map]
  rfl
theorem w_any {bs : List Bool} : Wp (bltV .any [.tl (bs.map fun b => .d (.bl b))]) h Q ↔ Q (.d (.bl (bs.any id))) h := by
  refine w_iff ?_
  show (boolsOf (bs.map fun b => PV.d (.bl b))).map (fun bs => (PV.d (.bl (bs.any id)), h)) = _
  rw [boolsOf_map]
  rfl
theorem w_sum {bs : List Int} : Wp (bltV .sum [.tl (bs.map fun b => .d (.int b))]) h Q ↔ Q (.d (.int bs.sum)) h := by
  refine w_iff ?_
  show (intsOf (bs.map fun b => PV.d (.int b))).map (fun bs => (PV.d (.int bs.sum), h)) = _
  rw [intsOf_map]
  rfl
theorem w_intI {i : Int} : Wp (bltV .int [.d (.int i)]) h Q ↔ Q (.d (.int i)) h := w_iff rfl
theorem w_intB {b : Bool} : Wp (bltV .int [.d (.bl b)]) h Q ↔ Q (.d (.int (if b = true then 1 else 0))) h := w_iff rfl
theorem w_abs {i : Int} : Wp (bltV .abs [.d (.int i)]) h Q ↔ Q (.d (.int (if i < 0 then -i else i))) h := w_iff rfl
/-! subscripts -/
theorem atI_map {α β : Type} {f : α → β} {xs : List α} {k : Int} : L2.atI (xs.map f) k = (L2.atI xs k).map f := by
  unfold L2.atI
  rw [List.length_map]
  cases L2.ixN xs.length k with
  | none => rfl
  | some j => exact List.getElem?_map
theorem w_ixT {ds : List D} {k : Int} {x : D} (e : L2.atI ds k = some x) : Wp (idxV (.d (.tup ds)) (.d (.int k))) h Q ↔ Q (.d x) h := by
  refine w_iff ?_
  show (L2.atI (ds.map PV.d) k).map (fun v => (v, h)) = _
  rw [atI_map, e]
  rfl
theorem w_ixL {xs : List PV} {k : Int} {x : PV} (e : L2.atI xs k = some x) : Wp (idxV (.tl xs) (.d (.int k))) h Q ↔ Q x h := by
  refine w_iff ?_
  show (L2.atI xs k).map (fun v => (v, h)) = _
  rw [e]
  rfl
theorem w_ixR {n : Nat} {xs : List PV} {k : Int} {x : PV} (e : h[n]? = some (.lst xs)) (e2 : L2.atI xs k = some x) : Wp (idxV (.ref n) (.d (.int k))) h Q ↔ Q x h := by
  refine w_iff ?_
  show (match seqOf (.ref n) h with
    | some xs => (L2.atI xs k).map fun v => (v, h)
    | none => none) = _
  rw [seqOf_ref e]
  dsimp only
  rw [e2]
  rfl
theorem atI_nat {α : Type} {xs : List α} {k : Nat} : L2.atI xs (k : Int) = xs[k]? := by
  unfold L2.atI L2.ixN
  rw [if_pos (by omega)]
  split
  · rw [Int.toNat_natCast]; rfl
  · rw [List.getElem?_eq_none (by omega)]; rfl
theorem w_slT {ds : List D} {lo hi : Option Int} : Wp (sliceV (.d (.tup ds)) lo hi) h Q ↔ Q (.d (.tup (cutL ds lo hi))) h := w_iff rfl
theorem w_slF {xs : List D} {lo hi : Option Int} : Wp (sliceV (.fl xs) lo hi) h Q ↔ Q (.tl (cutL (xs.map .d) lo hi)) h := w_iff rfl
theorem cutL_map {α β : Type} {f : α → β} {xs : List α} {lo hi : Option Int} : cutL (xs.map f) lo hi = (cutL xs lo hi).map f := by
  unfold cutL
  rw [List.length_map, List.map_take, List.map_drop]
theorem cut_hi {α : Type} {xs : List α} {k : Nat} : cutL xs none (some (k : Int)) = xs.take k := by
  unfold cutL
  rw [HT.sIx_nat, HT.sIx_none, List.drop_zero, Nat.sub_zero]
  by_cases hk : k ≤ xs.length
  · rw [Nat.min_eq_left hk]
  · rw [Nat.min_eq_right (by omega), List.take_of_length_le (Nat.le_refl _), List.take_of_length_le (by omega)]
theorem cut_lo {α : Type} {xs : List α} {k : Nat} : cutL xs (some (k : Int)) none = xs.drop k := by
  unfold cutL
  rw [HT.sIx_nat, HT.sIx_none, List.take_of_length_le (by rw [List.length_drop]; exact Nat.le_refl _)]
  by_cases hk : k ≤ xs.length
  · rw [Nat.min_eq_left hk]
  · rw [Nat.min_eq_right (by omega), List.drop_of_length_le (Nat.le_refl _), List.drop_of_length_le (by omega)]
/-! methods -/
theorem w_pop {n : Nat} {xs : List PV} {v : PV} (e : h[n]? = some (.lst (xs ++ [v]))) : Wp (mthV fb .pop (.ref n) []) h Q ↔ Q v (h.set n (.lst xs)) := by
  refine w_iff ?_
  show (match h[n]? with
    | some (.lst xs) => match xs[xs.length - 1]? with
      | some v => some (v, h.set n (.lst xs.dropLast))
      | none => none
    | none => none) = _
  rw [e]
  dsimp only
  have : (xs ++ [v])[(xs ++ [v]).length - 1]? = some v := by
    rw [List.length_append, List.length_singleton, Nat.add_sub_cancel, List.getElem?_append_right (Nat.le_refl _), Nat.sub_self]
    rfl
  rw [this]
  dsimp only
  rw [List.dropLast_concat]
theorem w_app {n : Nat} {xs : List PV} {x : D} (e : h[n]? = some (.lst xs)) (z : xs.length < sizeLine) : Wp (mthV fb .append (.ref n) [.d x]) h Q ↔ Q (.d .non) (h.set n (.lst (xs ++ [.d x]))) := by
  refine w_iff ?_
  show (match h[n]? with
      | some (.lst xs) => if (true && decide (xs.length < sizeLine)) = true then some (PV.d .non, h.set n (.lst (xs ++ [PV.d x]))) else none
      | none => none) = _
  rw [e]
  dsimp only
  rw [decide_eq_true z]
  rfl
theorem w_rev {n : Nat} {xs : List PV} (e : h[n]? = some (.lst xs)) : Wp (mthV fb .reverse (.ref n) []) h Q ↔ Q (.d .non) (h.set n (.lst xs.reverse)) := by
  refine w_iff ?_
  show (match h[n]? with
    | some (.lst xs) => some (PV.d .non, h.set n (.lst xs.reverse))
    | none => none) = _
  rw [e]
theorem w_set {n : Nat} {xs : List PV} {k : Int} {j : Nat} {x : D} {U : Unit → Hs → Prop} (e : h[n]? = some (.lst xs)) (e2 : L2.ixN xs.length k = some j) : Wp (setV fb (.ref n) (.d (.int k)) (.d x)) h U ↔ U () (h.set n (.lst (xs.set j (.d x)))) := by
  refine w_iff ?_
  show (match h[n]? with
      | some (.lst xs) => match L2.ixN xs.length k with
        | some j => if (true : Bool) = true then some ((), h.set n (.lst (xs.set j (.d x)))) else none
        | none => none
      | none => none) = _
  rw [e]
  dsimp only
  rw [e2]
  rfl
/-! calls -/
def Lv (n : Nat) (Q : PV → Hs → Prop) (f : Fl) (h : Hs) : Prop := match f with
  | .rt v => ∃ z h', leave n v h = some (z, h') ∧ Q z h'
  | .nx _ => Q (.d .non) (h.take n)
  | _ => False
theorem lv_d {n : Nat} {x : D} : Lv n Q (.rt (.d x)) h ↔ Q (.d x) (h.take n) :=
  ⟨fun ⟨_, _, e, q⟩ => by cases e; exact q, fun q => ⟨_, _, rfl, q⟩⟩
theorem lv_nx {n : Nat} {e : Env} : Lv n Q (.nx e) h ↔ Q (.d .non) (h.take n) := Iff.rfl
theorem mapRefs_ds {g : Nat → Option (PV × List Nat)} : ∀ ds : List D, mapRefs g (ds.map .d) = some (ds.map .d, [])
  | [] => rfl
  | x :: ds => by
    show (match mapRef g (.d x), mapRefs g (ds.map PV.d) with
      | some (y, l), some (ys, l2) => some (y :: ys, l ++ l2)
      | _, _ => none) = _
    rw [mapRefs_ds ds]
    rfl
theorem lv_own {n m : Nat} {ds : List D} (hm : n ≤ m) (e : h[m]? = some (.lst (ds.map .d))) : Lv n Q (.rt (.ref m)) h ↔ Q (.tl (ds.map .d)) (h.take n) := by
  have e : leave n (.ref m) h = some (.tl (ds.map .d), h.take n) := by
    unfold leave
    have : mapRef (resR n h 4) (.ref m) = some (.tl (ds.map .d), [m]) := by
      show (if m < n then some (PV.ref m, []) else match h[m]? with
        | some (.lst xs) => match mapRefs (resR n h 3) xs with
          | some (ys, l) => some (.tl ys, m :: l)
          | none => none
        | none => none) = _
      rw [if_neg (by omega), e]
      dsimp only
      rw [mapRefs_ds]
    rw [this]
    dsimp only
    rw [if_pos (by simp)]
  exact ⟨fun ⟨_, _, e2, q⟩ => by rw [e] at e2; cases e2; exact q, fun q => ⟨_, _, e, q⟩⟩
theorem w_callD {FT : List Fn} {d f : Nat} {t : Fn} {args : List PV} (ht : FT[f]? = some t) (hl : args.length = t.np) : Wp (call FT (d + 1) f args) h Q ↔
    Wp (evSs (call FT d) h.length t.body ((convs args h).1.map some ++ List.replicate (t.N.length - t.np) none)) (convs args h).2 (Lv h.length Q) := by
  have e : call FT (d + 1) f args h = match evSs (call FT d) h.length t.body ((convs args h).1.map some ++ List.replicate (t.N.length - t.np) none) (convs args h).2 with
        | some (.rt v, h2) => leave h.length v h2
        | some (.nx _, h2) => leave h.length (.d .non) h2
        | _ => none := by
    show (match FT[f]? with
      | none => none
      | some t => if args.length = t.np then
          match evSs (call FT d) h.length t.body ((convs args h).1.map some ++ List.replicate (t.N.length - t.np) none) (convs args h).2 with
          | some (.rt v, h2) => leave h.length v h2
          | some (.nx _, h2) => leave h.length (.d .non) h2
          | _ => none
        else none) = _
    rw [ht]
    dsimp only
    rw [if_pos hl]
  cases q : evSs (call FT d) h.length t.body ((convs args h).1.map some ++ List.replicate (t.N.length - t.np) none) (convs args h).2 with
  | none =>
    rw [q] at e
    exact ⟨fun w => absurd w (w_no e), fun w => absurd w (w_no q)⟩
  | some r =>
    obtain ⟨fl, h2⟩ := r
    rw [q] at e
    rw [w_iff q]
    cases fl with
    | rt v =>
      have e : call FT (d + 1) f args h = leave h.length v h2 := e
      dsimp only [Lv]
      constructor
      · intro w
        obtain ⟨a, h3, e3, z⟩ := w.ex
        exact ⟨a, h3, e.symm.trans e3, z⟩
      · rintro ⟨a, h3, e3, z⟩
        exact ⟨a, h3, e.trans e3, z⟩
    | nx v => exact w_iff e
    | bk v => exact ⟨fun w => absurd w (w_no e), fun w => w.elim⟩
    | ct v => exact ⟨fun w => absurd w (w_no e), fun w => w.elim⟩
/-- a call, shut -/
@[irreducible] def cal (FT : List Fn) (d f : Nat) (args : List PV) : M PV := call FT d f args
theorem cal_eq {FT : List Fn} {d : Nat} : cal FT d = call FT d := by
  funext f args
  unfold cal
  rfl
theorem w_cal {FT : List Fn} {d f : Nat} {t : Fn} {args : List PV} (ht : FT[f]? = some t) (hl : args.length = t.np) : Wp (cal FT (d + 1) f args) h Q ↔
    Wp (evSs (cal FT d) h.length t.body ((convs args h).1.map some ++ List.replicate (t.N.length - t.np) none)) (convs args h).2 (Lv h.length Q) := by
  rw [cal_eq, cal_eq]
  exact w_callD ht hl
end
end Pe.Pw
/-! Pe: weakest preconditions: loops and comprehensions. -/
namespace Pe.Pw
open PySem
section
variable {α β : Type} {h : Hs} {cf : Nat → List PV → M PV} {fb : Nat} {env : Env} {Q : PV → Hs → Prop} {R : Bool → Hs → Prop} {F : Fl → Hs → Prop} {I : ItV → Hs → Prop}
def rng1M (v : PV) : M ItV := match v with
  | .d (.int j) => rngV 0 j
  | _ => M.no
def rng2M (v w : PV) : M ItV := match v, w with
  | .d (.int i), .d (.int j) => rngV i j
  | _, _ => M.no
theorem w_it1 {a : E} : Wp (evIt cf fb (.rng1 a) env) h I ↔ Wp (evE cf fb a env) h fun v h => Wp (rng1M v) h I := by
  refine w_bnd.trans (iff_of_eq ?_)
  congr 1
theorem w_it2 {a b : E} : Wp (evIt cf fb (.rng2 a b) env) h I ↔ Wp (evE cf fb a env) h fun v h => Wp (evE cf fb b env) h fun w h => Wp (rng2M v w) h I := by
  have e : evIt cf fb (.rng2 a b) env = M.bnd (evE cf fb a env) fun v => M.bnd (evE cf fb b env) fun w => rng2M v w := rfl
  rw [e]
  simp only [w_bnd]
theorem w_itS {a : E} : Wp (evIt cf fb (.seq a) env) h I ↔ Wp (evE cf fb a env) h fun v h => Wp (seqM v) h I := w_bnd
theorem w_rgv {a : E} : Wp (evE cf fb (.rgv a) env) h Q ↔ Wp (evE cf fb a env) h fun x h => Wp (rgvV x) h Q := w_bnd
theorem w_rgvI {j : Int} : Wp (rgvV (.d (.int j))) h Q ↔ (-(2 ^ 62) ≤ j ∧ j < 2 ^ 62) ∧ Q (.rg j.toNat) h := wp_cond rfl
theorem w_isB {a b : Bool} {R : Bool → Hs → Prop} : Wp (cmpV .isN (.d (.bl a)) (.d (.bl b))) h R ↔ R (decide (a = b)) h := w_iff rfl
theorem w_lset {a : E} : Wp (evE cf fb (.lset a) env) h Q ↔ Wp (evE cf fb a env) h fun x h => Wp (lsetV x) h Q := w_bnd
theorem w_lsetL {xs : List PV} : Wp (lsetV (.tl xs)) h Q ↔ Wp (lenS xs) h Q := by
  have : lsetV (.tl xs) h = lenS xs h := rfl
  constructor
  · rintro ⟨r, h1, e, q⟩
    exact ⟨r, h1, by rw [← this]; exact e, q⟩
  · rintro ⟨r, h1, e, q⟩
    exact ⟨r, h1, by rw [this]; exact e, q⟩
theorem w_seqG {n : Nat} : Wp (seqM (.rg n)) h I ↔ I (.rng 0 n) h := w_iff rfl
theorem w_seqM {v : PV} (nr : isRg v = false) : Wp (seqM v) h I ↔ Wp (srcOf v) h fun s h => I (.seq s) h := by
  have : seqM v = M.bnd (srcOf v) fun s => M.ret (.seq s) := by cases v <;> first | rfl | cases nr
  rw [this]
  simp only [w_bnd, w_ret]
theorem w_itE {a : E} : Wp (evIt cf fb (.enum a) env) h I ↔ Wp (evE cf fb a env) h fun v h => Wp (srcOf v) h fun s h => I (.enum s) h := by
  show Wp (M.bnd _ _) h I ↔ _
  simp only [w_bnd, w_ret]
theorem w_rng1 {j : Int} : Wp (rng1M (.d (.int j))) h I ↔ (-(2 ^ 62) ≤ (0 : Int) ∧ (0 : Int) < 2 ^ 62 ∧ -(2 ^ 62) ≤ j ∧ j < 2 ^ 62) ∧ I (.rng 0 (j - 0).toNat) h := wp_cond rfl
theorem w_rng2 {i j : Int} : Wp (rng2M (.d (.int i)) (.d (.int j))) h I ↔ (-(2 ^ 62) ≤ i ∧ i < 2 ^ 62 ∧ -(2 ^ 62) ≤ j ∧ j < 2 ^ 62) ∧ I (.rng i (j - i).toNat) h := wp_cond rfl
theorem w_srcT {ds : List D} {S : Src → Hs → Prop} : Wp (srcOf (.d (.tup ds))) h S ↔ S (.imm (ds.map .d)) h := w_iff rfl
theorem w_srcF {ds : List D} {S : Src → Hs → Prop} : Wp (srcOf (.fl ds)) h S ↔ S (.imm (ds.map .d)) h := w_iff rfl
theorem w_srcR {n : Nat} {S : Src → Hs → Prop} : Wp (srcOf (.ref n)) h S ↔ S (.cell n) h := w_iff rfl
theorem w_seqT {ds : List D} : Wp (seqM (.d (.tup ds))) h I ↔ I (.seq (.imm (ds.map .d))) h := (w_seqM rfl).trans w_srcT
theorem w_seqF {ds : List D} : Wp (seqM (.fl ds)) h I ↔ I (.seq (.imm (ds.map .d))) h := (w_seqM rfl).trans w_srcF
theorem w_seqR {n : Nat} : Wp (seqM (.ref n)) h I ↔ I (.seq (.cell n)) h := (w_seqM rfl).trans w_srcR
theorem w_srcL {ds : List D} {S : Src → Hs → Prop} : Wp (srcOf (.tl (ds.map .d))) h S ↔ S (.imm (ds.map .d)) h := by
  refine w_iff ?_
  have : srcOf0 (.tl (ds.map .d)) = some (.imm (ds.map .d)) := by
    show (match allD (ds.map PV.d) with
      | some _ => some (Src.imm (ds.map .d))
      | none => none) = _
    rw [allD_ds]
  show (match srcOf0 (.tl (ds.map PV.d)) with
    | some s => some (s, h)
    | none => _) = _
  rw [this]
/-- what is walked -/
structure Its (iv : ItV) (h : Hs) (xs : List PV) : Prop where
  at_ : ∀ i, iv.at h i = some xs[i]?
  fuel : iv.fuel h = xs.length
theorem w_seqL {ds : List D} : Wp (seqM (.tl (ds.map .d))) h I ↔ I (.seq (.imm (ds.map .d))) h := (w_seqM rfl).trans w_srcL
theorem its_imm {xs : List PV} : Its (.seq (.imm xs)) h xs := ⟨fun _ => rfl, rfl⟩
theorem its_cell {n : Nat} {xs : List PV} (e : h[n]? = some (.lst xs)) : Its (.seq (.cell n)) h xs := by
  have : (Src.cell n).items h = some xs := by
    show (match h[n]? with
      | some (.lst xs) => some xs
      | none => none) = _
    rw [e]
  refine ⟨fun i => ?_, ?_⟩
  · show ((Src.cell n).items h).map (fun xs => xs[i]?) = _
    rw [this]
    rfl
  · show (((Src.cell n).items h).getD []).length = _
    rw [this]
    rfl
def rngL (lo : Int) (n : Nat) : List PV := (List.range n).map fun i : Nat => PV.d (.int (lo + (i : Int)))
theorem its_rng {lo : Int} {n : Nat} : Its (.rng lo n) h (rngL lo n) := by
  refine ⟨fun i => ?_, ?_⟩
  · show some (if i < n then some (PV.d (.int (lo + i))) else none) = _
    unfold rngL
    rw [List.getElem?_map]
    by_cases hi : i < n
    · rw [if_pos hi, List.getElem?_range hi]
      rfl
    · rw [if_neg hi, List.getElem?_eq_none (by simpa using hi)]
      rfl
  · show n = _
    simp [rngL]
theorem rngL_get {lo : Int} {n i : Nat} {x : PV} (e : (rngL lo n)[i]? = some x) : i < n ∧ x = .d (.int (lo + i)) := by
  unfold rngL at e
  rw [List.getElem?_map] at e
  by_cases hi : i < n
  · rw [List.getElem?_range hi] at e
    cases e
    exact ⟨hi, rfl⟩
  · rw [List.getElem?_eq_none (by simpa using hi)] at e
    cases e
theorem rngL_len {lo : Int} {n : Nat} : (rngL lo n).length = n := by simp [rngL]
/-- one turn of a for: what its end means -/
def FStep (P : Env → Hs → Prop) (F : Fl → Hs → Prop) (f : Fl) (h : Hs) : Prop := match f with
  | .nx e => P e h
  | .ct e => P e h
  | .bk e => F (.nx e) h
  | .rt v => F (.rt v) h
theorem fstep_nx {P : Env → Hs → Prop} {e : Env} : FStep P F (.nx e) h ↔ P e h := Iff.rfl
theorem fstep_ct {P : Env → Hs → Prop} {e : Env} : FStep P F (.ct e) h ↔ P e h := Iff.rfl
theorem fstep_bk {P : Env → Hs → Prop} {e : Env} : FStep P F (.bk e) h ↔ F (.nx e) h := Iff.rfl
theorem fstep_rt {P : Env → Hs → Prop} {v : PV} : FStep P F (.rt v) h ↔ F (.rt v) h := Iff.rfl
/-- THE RULE for a for: P i at the i-th turn -/
theorem w_for {t : T} {b : List S} {iv : ItV} (xs : List PV) (P : Nat → Env → Hs → Prop) (p0 : P 0 env h) (hi : ∀ i env h, i ≤ xs.length → P i env h → Its iv h xs)
    (st : ∀ i env h x, xs[i]? = some x → P i env h → Wp (bindT t x env) h fun e h => Wp (evSs cf fb b e) h (FStep (P (i + 1)) F)) (fin : ∀ env h, P xs.length env h → F (.nx env) h) :
    Wp (floop t (evSs cf fb b) iv (iv.fuel h) 0 env) h F := by
  have key : ∀ k i env h, i + k = xs.length → P i env h → Wp (floop t (evSs cf fb b) iv k i env) h F := by
    intro k
    induction k with
    | zero =>
      intro i env h e p
      have q := (hi i env h (by omega) p).at_ i
      rw [List.getElem?_eq_none (by omega)] at q
      refine wp_eq (a := .nx env) (h1 := h) ?_ (fin env h (by rw [← e]; exact p))
      show (match iv.at h i with
        | some none => some (Fl.nx env, h)
        | _ => none) = _
      rw [q]
    | succ k ih =>
      intro i env h e p
      have hlt : i < xs.length := by omega
      have q := (hi i env h (by omega) p).at_ i
      rw [List.getElem?_eq_getElem hlt] at q
      have s := st i env h xs[i] (List.getElem?_eq_getElem hlt) p
      rw [← w_bnd] at s
      obtain ⟨fl, h1, e1, q1⟩ := wp_some s
      have un : floop t (evSs cf fb b) iv (k + 1) i env h = (match M.bnd (bindT t xs[i] env) (evSs cf fb b) h with
        | some (.nx e, h1) => floop t (evSs cf fb b) iv k (i + 1) e h1
        | some (.ct e, h1) => floop t (evSs cf fb b) iv k (i + 1) e h1
        | some (.bk e, h1) => some (.nx e, h1)
        | some (.rt v, h1) => some (.rt v, h1)
        | none => none) := by
        show (match iv.at h i with
          | some none => some (Fl.nx env, h)
          | some (some x) => match M.bnd (bindT t x env) (evSs cf fb b) h with
            | some (.nx e, h1) => floop t (evSs cf fb b) iv k (i + 1) e h1
            | some (.ct e, h1) => floop t (evSs cf fb b) iv k (i + 1) e h1
            | some (.bk e, h1) => some (.nx e, h1)
            | some (.rt v, h1) => some (.rt v, h1)
            | none => none
          | none => none) = _
        rw [q]
      rw [e1] at un
      cases fl with
      | nx e2 =>
        obtain ⟨a, h2, e3, q3⟩ := wp_some (ih (i + 1) e2 h1 (by omega) q1)
        exact wp_eq (un.trans e3) q3
      | ct e2 =>
        obtain ⟨a, h2, e3, q3⟩ := wp_some (ih (i + 1) e2 h1 (by omega) q1)
        exact wp_eq (un.trans e3) q3
      | bk e2 => exact wp_eq un q1
      | rt v => exact wp_eq un q1
  rw [(hi 0 env h (Nat.zero_le _) p0).fuel]
  exact key xs.length 0 env h (by omega) p0
/-- one turn of a comprehension -/
def cbody (cf : Nat → List PV → M PV) (fb : Nat) (own : List Nat) (tg : T) (hc : Bool) (c elt : E) (env : Env) (x : PV) : M (Option PV) :=
  M.bnd (bindT tg x (wipeE env own)) fun env1 => M.bnd (if hc then M.bnd (evE cf fb c env1) boolV else M.ret true) fun k => if k then M.bnd (evE cf fb elt env1) fun y => M.ret (some y) else M.ret none
theorem w_comp {own : List Nat} {tg : T} {it : It} {hc : Bool} {c elt : E} : Wp (evE cf fb (.comp own tg it hc c elt) env) h Q ↔ Wp (evIt cf fb it env) h fun iv h => Wp (cloop (cbody cf fb own tg hc c elt env) iv (iv.fuel h) 0 []) h fun ys h => Q (.tl ys) h := by
  refine w_bnd.trans (iff_of_eq ?_)
  congr 1
  funext iv h
  apply propext
  have e : (fun h => match cloop (cbody cf fb own tg hc c elt env) iv (iv.fuel h) 0 [] h with
      | some (ys, h1) => some (PV.tl ys, h1)
      | none => none : M PV) = fun h => (cloop (cbody cf fb own tg hc c elt env) iv (iv.fuel h) 0 [] h).map fun r => (PV.tl r.1, r.2) := by
    funext h
    cases cloop (cbody cf fb own tg hc c elt env) iv (iv.fuel h) 0 [] h <;> rfl
  show Wp (fun h => match cloop (cbody cf fb own tg hc c elt env) iv (iv.fuel h) 0 [] h with
      | some (ys, h1) => some (PV.tl ys, h1)
      | none => none : M PV) h Q ↔ _
  rw [e]
  cases q : cloop (cbody cf fb own tg hc c elt env) iv (iv.fuel h) 0 [] h with
  | none =>
    refine ⟨fun w => absurd w (w_no ?_), fun w => absurd w (w_no q)⟩
    rw [q]
    rfl
  | some r =>
    obtain ⟨ys, h1⟩ := r
    rw [w_iff q]
    refine w_iff ?_
    rw [q]
    rfl
def CStep (P : List PV → Hs → Prop) (acc : List PV) (o : Option PV) (h : Hs) : Prop := match o with
  | some y => P (acc ++ [y]) h ∧ acc.length < sizeLine
  | none => P acc h
/-- THE RULE for a comprehension -/
theorem w_cl {f : PV → M (Option PV)} {iv : ItV} {C : List PV → Hs → Prop} (xs : List PV) (P : Nat → List PV → Hs → Prop) (p0 : P 0 [] h) (hi : ∀ i acc h, i ≤ xs.length → P i acc h → Its iv h xs)
    (st : ∀ i acc h x, xs[i]? = some x → P i acc h → Wp (f x) h (CStep (P (i + 1)) acc)) (fin : ∀ acc h, P xs.length acc h → C acc h) : Wp (cloop f iv (iv.fuel h) 0 []) h C := by
  have key : ∀ k i acc h, i + k = xs.length → P i acc h → Wp (cloop f iv k i acc) h C := by
    intro k
    induction k with
    | zero =>
      intro i acc h e p
      have q := (hi i acc h (by omega) p).at_ i
      rw [List.getElem?_eq_none (by omega)] at q
      refine wp_eq (a := acc) (h1 := h) ?_ (fin acc h (by rw [← e]; exact p))
      show (match iv.at h i with
        | some none => some (acc, h)
        | _ => none) = _
      rw [q]
    | succ k ih =>
      intro i acc h e p
      have hlt : i < xs.length := by omega
      have q := (hi i acc h (by omega) p).at_ i
      rw [List.getElem?_eq_getElem hlt] at q
      obtain ⟨o, h1, e1, q1⟩ := wp_some (st i acc h xs[i] (List.getElem?_eq_getElem hlt) p)
      have un : cloop f iv (k + 1) i acc h = (match f xs[i] h with
        | some (some y, h1) => if acc.length < sizeLine then cloop f iv k (i + 1) (acc ++ [y]) h1 else none
        | some (none, h1) => cloop f iv k (i + 1) acc h1
        | none => none) := by
        show (match iv.at h i with
          | some none => some (acc, h)
          | some (some x) => match f x h with
            | some (some y, h1) => if acc.length < sizeLine then cloop f iv k (i + 1) (acc ++ [y]) h1 else none
            | some (none, h1) => cloop f iv k (i + 1) acc h1
            | none => none
          | none => none) = _
        rw [q]
      rw [e1] at un
      cases o with
      | none =>
        obtain ⟨a, h2, e3, q3⟩ := wp_some (ih (i + 1) acc h1 (by omega) q1)
        exact wp_eq (un.trans e3) q3
      | some y =>
        dsimp only at un
        rw [if_pos q1.2] at un
        obtain ⟨a, h2, e3, q3⟩ := wp_some (ih (i + 1) _ h1 (by omega) q1.1)
        exact wp_eq (un.trans e3) q3
  rw [(hi 0 [] h (Nat.zero_le _) p0).fuel]
  exact key xs.length 0 [] h (by omega) p0
/-- a comprehension that changes nothing and has no condition -/
theorem w_clmap {f : PV → M (Option PV)} {iv : ItV} {C : List PV → Hs → Prop} (xs : List PV) (g : PV → PV) (hi : Its iv h xs) (z : xs.length ≤ sizeLine)
    (st : ∀ x ∈ xs, Wp (f x) h fun o h1 => o = some (g x) ∧ h1 = h) (fin : C (xs.map g) h) : Wp (cloop f iv (iv.fuel h) 0 []) h C := by
  refine w_cl xs (fun i acc h1 => h1 = h ∧ acc = (xs.take i).map g) ⟨rfl, rfl⟩ (fun i acc h1 _ p => by rw [p.1]; exact hi) (fun i acc h1 x e p => ?_) fun acc h1 p => ?_
  · obtain ⟨rfl, rfl⟩ := p
    refine wp_imp (st x (List.mem_of_getElem? e)) fun o h2 q => ?_
    obtain ⟨rfl, rfl⟩ := q
    have hlt := (List.getElem?_eq_some_iff.mp e).1
    refine ⟨⟨rfl, ?_⟩, ?_⟩
    · rw [List.take_add_one, e, List.map_append]
      rfl
    · rw [List.length_map, List.length_take]
      omega
  · obtain ⟨rfl, rfl⟩ := p
    rw [List.take_length]
    exact fin
theorem w_cb {own : List Nat} {tg : T} {c elt : E} {x : PV} {O : Option PV → Hs → Prop} : Wp (cbody cf fb own tg false c elt env x) h O ↔ Wp (bindT tg x (wipeE env own)) h fun e h => Wp (evE cf fb elt e) h fun y h => O (some y) h := by
  unfold cbody
  simp only [w_bnd, Bool.false_eq_true, if_false, w_ret, w_ite, true_implies, if_true]
  simp only [Bool.true_eq_false, false_implies, and_true]
theorem w_cbc {own : List Nat} {tg : T} {c elt : E} {x : PV} {O : Option PV → Hs → Prop} : Wp (cbody cf fb own tg true c elt env x) h O ↔ Wp (bindT tg x (wipeE env own)) h fun e h => Wp (evE cf fb c e) h fun v h => Wp (boolV v) h fun k h => (k = true → Wp (evE cf fb elt e) h fun y h => O (some y) h) ∧ (k = false → O none h) := by
  unfold cbody
  simp only [w_bnd, if_true, w_ret, w_ite]
/-! dict comprehensions, ranges downwards -/
def dbody (cf : Nat → List PV → M PV) (fb : Nat) (own : List Nat) (tg : T) (hc : Bool) (c k v : E) (env : Env) (x : PV) : M (Option (Sum Int Str × D)) :=
  M.bnd (bindT tg x (wipeE env own)) fun env1 => M.bnd (if hc then M.bnd (evE cf fb c env1) boolV else M.ret true) fun b => if b then M.bnd (evE cf fb k env1) fun y => M.bnd (evE cf fb v env1) fun z => pairM y z else M.ret none
theorem w_dcomp {own : List Nat} {tg : T} {it : It} {hc : Bool} {c k v : E} : Wp (evE cf fb (.dcomp own tg it hc c k v) env) h Q ↔ Wp (evIt cf fb it env) h fun iv h => Wp (dloop (dbody cf fb own tg hc c k v env) iv (iv.fuel h) 0 []) h fun ys h => Q (.fd ys) h := by
  refine w_bnd.trans (iff_of_eq ?_)
  congr 1
  funext iv h
  apply propext
  have e : (fun h => match dloop (dbody cf fb own tg hc c k v env) iv (iv.fuel h) 0 [] h with
      | some (ys, h1) => some (PV.fd ys, h1)
      | none => none : M PV) = fun h => (dloop (dbody cf fb own tg hc c k v env) iv (iv.fuel h) 0 [] h).map fun r => (PV.fd r.1, r.2) := by
    funext h
    cases dloop (dbody cf fb own tg hc c k v env) iv (iv.fuel h) 0 [] h <;> rfl
  show Wp (fun h => match dloop (dbody cf fb own tg hc c k v env) iv (iv.fuel h) 0 [] h with
      | some (ys, h1) => some (PV.fd ys, h1)
      | none => none : M PV) h Q ↔ _
  rw [e]
  cases q : dloop (dbody cf fb own tg hc c k v env) iv (iv.fuel h) 0 [] h with
  | none =>
    refine ⟨fun w => absurd w (w_no ?_), fun w => absurd w (w_no q)⟩
    rw [q]
    rfl
  | some r =>
    obtain ⟨ys, h1⟩ := r
    rw [w_iff q]
    refine w_iff ?_
    rw [q]
    rfl
theorem w_db {own : List Nat} {tg : T} {c k v : E} {x : PV} {O : Option (Sum Int Str × D) → Hs → Prop} : Wp (dbody cf fb own tg false c k v env x) h O ↔ Wp (bindT tg x (wipeE env own)) h fun e h => Wp (evE cf fb k e) h fun y h => Wp (evE cf fb v e) h fun z h => Wp (pairM y z) h O := by
  unfold dbody
  simp only [w_bnd, Bool.false_eq_true, if_false, w_ret, w_ite, true_implies, if_true]
  simp only [Bool.true_eq_false, false_implies, and_true]
theorem w_pairI {i : Int} {v : D} {O : Option (Sum Int Str × D) → Hs → Prop} : Wp (pairM (.d (.int i)) (.d v)) h O ↔ O (some (.inl i, v)) h := w_iff rfl
theorem w_pairS {i : Str} {v : D} {O : Option (Sum Int Str × D) → Hs → Prop} : Wp (pairM (.d (.str i)) (.d v)) h O ↔ O (some (.inr i, v)) h := w_iff rfl
theorem w_innF {es : List (Sum Int Str × D)} {i : Int} : Wp (cmpV .inn (.d (.int i)) (.fd es)) h R ↔ R (hasK es (.inl i)) h := w_iff rfl
theorem w_ninF {es : List (Sum Int Str × D)} {i : Int} : Wp (cmpV .nin (.d (.int i)) (.fd es)) h R ↔ R (!hasK es (.inl i)) h := w_iff rfl
theorem conv_fd {es : List (Sum Int Str × D)} : conv (.fd es) h = (.fd es, h) := rfl
/-! how many different whole numbers; two generators -/
theorem w_lsc {own : List Nat} {tg : T} {it : It} {hc : Bool} {c elt : E} : Wp (evE cf fb (.lsc own tg it hc c elt) env) h Q ↔ Wp (evIt cf fb it env) h fun iv h => Wp (cloop (cbody cf fb own tg hc c elt env) iv (iv.fuel h) 0 []) h fun ys h => Wp (lenS ys) h Q := by
  refine w_bnd.trans (iff_of_eq ?_)
  congr 1
  funext iv h
  apply propext
  show Wp (fun h => match cloop (cbody cf fb own tg hc c elt env) iv (iv.fuel h) 0 [] h with
      | some (ys, h1) => lenS ys h1
      | none => none : M PV) h Q ↔ _
  cases q : cloop (cbody cf fb own tg hc c elt env) iv (iv.fuel h) 0 [] h with
  | none =>
    refine ⟨fun w => absurd w (w_no ?_), fun w => absurd w (w_no q)⟩
    show (match cloop (cbody cf fb own tg hc c elt env) iv (iv.fuel h) 0 [] h with
      | some (ys, h1) => lenS ys h1
      | none => none) = none
    rw [q]
  | some r =>
    obtain ⟨ys, h1⟩ := r
    rw [w_iff q]
    refine w_same ?_
    show (match cloop (cbody cf fb own tg hc c elt env) iv (iv.fuel h) 0 [] h with
      | some (ys, h1) => lenS ys h1
      | none => none) = _
    rw [q]
theorem w_difS {ns : List Int} (hl : ns.length < 1000) : Wp (lenS ((ns.map D.int).map .d)) h Q ↔ Q (.d (.int (met ns).length)) h := w_iff (by
  have e : intsOf ((ns.map D.int).map .d) = some ns := by rw [List.map_map]; exact intsOf_map ns
  unfold lenS
  simp only [e, if_pos hl])
def rngdM (v w : PV) : M ItV := match v, w with
  | .d (.int i), .d (.int j) => rngdV i j
  | _, _ => M.no
theorem w_itd {a b : E} : Wp (evIt cf fb (.rngd a b) env) h I ↔ Wp (evE cf fb a env) h fun v h => Wp (evE cf fb b env) h fun w h => Wp (rngdM v w) h I := by
  have e : evIt cf fb (.rngd a b) env = M.bnd (evE cf fb a env) fun v => M.bnd (evE cf fb b env) fun w => rngdM v w := rfl
  rw [e]
  simp only [w_bnd]
theorem w_rngd {i j : Int} : Wp (rngdM (.d (.int i)) (.d (.int j))) h I ↔ (-(2 ^ 62) ≤ i ∧ i < 2 ^ 62 ∧ -(2 ^ 62) ≤ j ∧ j < 2 ^ 62) ∧ I (.rngd i (i - j).toNat) h := wp_cond rfl
end
end Pe.Pw
/-! Pe: the helpers that each law has: drawing, picking, comparing. -/
namespace Pe.Pw
open PySem
theorem wipe_nil {env : Env} : wipeE env [] = env := rfl
theorem wipe_cons {env : Env} {v : Nat} {vs : List Nat} : wipeE env (v :: vs) = (wipeE env vs).set v none := rfl
def Mid (P : Env → Hs → Prop) (F : Fl → Hs → Prop) (f : Fl) (h : Hs) : Prop := match f with
  | .nx e => P e h
  | f => F f h
theorem mid_nx {P : Env → Hs → Prop} {F : Fl → Hs → Prop} {h : Hs} {e : Env} : Mid P F (.nx e) h ↔ P e h := Iff.rfl
theorem mid_rt {P : Env → Hs → Prop} {F : Fl → Hs → Prop} {h : Hs} {v : PV} : Mid P F (.rt v) h ↔ F (.rt v) h := Iff.rfl
theorem mid_bk {P : Env → Hs → Prop} {F : Fl → Hs → Prop} {h : Hs} {v : Env} : Mid P F (.bk v) h ↔ F (.bk v) h := Iff.rfl
theorem mid_ct {P : Env → Hs → Prop} {F : Fl → Hs → Prop} {h : Hs} {v : Env} : Mid P F (.ct v) h ↔ F (.ct v) h := Iff.rfl
def ws := And.intro @w_ret <| And.intro @w_bnd <| And.intro @w_of <| And.intro @getV_0 <| And.intro @getV_s <| And.intro @w_var <| And.intro @w_cst <| And.intro @w_bin <| And.intro @w_un <| And.intro @w_nt <| And.intro @w_an <| And.intro @w_orr <| And.intro @w_cmp <| And.intro @w_chn <| And.intro @w_ifx <| And.intro @w_call <| And.intro @w_blt <| And.intro @w_mth <| And.intro @w_tup <| And.intro @w_lst <| And.intro @w_idx <| And.intro @w_slc <| And.intro @slc_tt <| And.intro @slc_tf <| And.intro @slc_ft <| And.intro @slc_ff <| And.intro @w_nil <| And.intro @w_cons <| And.intro @w_snil <| And.intro @w_scons <| And.intro @thn_nx <| And.intro @thn_rt <| And.intro @thn_bk <| And.intro @thn_ct <| And.intro @w_asg <| And.intro @w_sub <| And.intro @w_par <| And.intro @w_aug <| And.intro @w_ex <| And.intro @w_rt <| And.intro @w_rtn <| And.intro @w_ife <| And.intro @w_brk <| And.intro @w_cnt <| And.intro @w_pas <| And.intro @w_fr <| And.intro @setE_0 <| And.intro @setE_s <| And.intro @w_nm <| And.intro @w_tgd <| And.intro @w_tgm <| And.intro @w_tgnil <| And.intro @w_tgcons <| And.intro @conv_d <| And.intro @conv_fl <| And.intro @conv_ref <| And.intro @conv_tl0 <| And.intro @convs_nil <| And.intro @convs_cons <| And.intro @w_add <| And.intro @w_subI <| And.intro @w_mul <| And.intro @w_fdiv <| And.intro @w_mod <| And.intro @w_pow <| And.intro @w_shl <| And.intro @w_addS <| And.intro @w_addT <| And.intro @w_addL <| And.intro @w_augI <| And.intro @w_augS <| And.intro @w_neg <| And.intro @w_bool <| And.intro @w_lt <| And.intro @w_le <| And.intro @w_gt <| And.intro @w_ge <| And.intro @w_eqI <| And.intro @w_neI <| And.intro @w_eqB <| And.intro @w_neB <| And.intro @w_isn <| And.intro @w_notn <| And.intro @w_isnN <| And.intro @w_notnN <| And.intro @w_isnI <| And.intro @w_notnI <| And.intro @w_isnT <| And.intro @w_notnT <| And.intro @w_isnS <| And.intro @w_isiD <| And.intro @w_isiT <| And.intro @w_isiR <| And.intro @w_isiF <| And.intro @w_isiM <| And.intro @w_seqT <| And.intro @w_seqF <| And.intro @w_seqR <| And.intro @w_seqL <| And.intro @w_seqG <| And.intro @w_dcomp <| And.intro @w_db <| And.intro @w_pairI <| And.intro @w_pairS <| And.intro @w_innF <| And.intro @w_ninF <| And.intro @conv_fd <| And.intro @w_itd <| And.intro @w_rngd <| And.intro @w_rgv <| And.intro @w_rgvI <| And.intro @w_lenT <| And.intro @w_lenL <| And.intro @mkTup_nil <| And.intro @w_tupL <| And.intro @w_listT <| And.intro @w_all <| And.intro @w_any <| And.intro @w_sum <| And.intro @w_intI <| And.intro @w_intB <| And.intro @w_abs <| And.intro @w_slT <| And.intro @w_slF <| And.intro @lv_d <| And.intro @lv_nx <| And.intro @w_it1 <| And.intro @w_it2 <| And.intro @w_itS <| And.intro @w_itE <| And.intro @w_rng1 <| And.intro @w_rng2 <| And.intro @w_srcT <| And.intro @w_srcF <| And.intro @w_srcR <| And.intro @w_srcL <| And.intro @fstep_nx <| And.intro @fstep_ct <| And.intro @fstep_bk <| And.intro @fstep_rt <| And.intro @mid_nx <| And.intro @mid_rt <| And.intro @mid_bk <| And.intro @mid_ct <| And.intro @w_comp <| And.intro @w_cb <| And.intro @w_cbc <| And.intro @wipe_nil <| @wipe_cons
/-- the cell n holds whole numbers -/
def Dr (n : Nat) (h : Hs) : Prop := ∃ ds : List Int, h[n]? = some (.lst (ds.map fun i => .d (.int i)))
/-- nothing was changed but that cell -/
def Dn (n : Nat) (h h' : Hs) : Prop := ∃ ds : List Int, h' = h.set n (.lst (ds.map fun i => .d (.int i)))

def takeB : List S := [.ife (.cmp .eq (.blt .len [(.var 0)]) (.cst (.int 0))) [.ret (.cst (.int 0))] [], .ret (.bin .mod (.blt .int [(.mth .pop (.var 0) [])]) (.var 1))]
structure Is (FT : List Fn) (f np nn : Nat) (b : List S) : Prop where
  ex : ∃ nm N, FT[f]? = some ⟨nm, N, np, b⟩ ∧ N.length = nn
theorem Is.call {FT : List Fn} {f np nn : Nat} {b : List S} (i : Is FT f np nn b) {d : Nat} {args : List PV} {h : Hs} {Q : PV → Hs → Prop} (hl : args.length = np) (w : Wp (evSs (cal FT d) h.length b ((convs args h).1.map some ++ List.replicate (nn - np) none)) (convs args h).2 (Lv h.length Q)) : Wp (cal FT (d + 1) f args) h Q := by
  obtain ⟨nm, N, e, q⟩ := i.ex
  refine (w_cal e hl).mpr ?_
  show Wp (evSs (cal FT d) h.length b ((convs args h).1.map some ++ List.replicate (N.length - np) none)) (convs args h).2 (Lv h.length Q)
  rw [q]
  exact w
section
variable {FT : List Fn} {h : Hs} {Q : PV → Hs → Prop} {n d f : Nat}
theorem Dr.lt (a : Dr n h) : n < h.length := by
  obtain ⟨ds, e⟩ := a
  exact (List.getElem?_eq_some_iff.mp e).1
theorem Dn.dr {h' : Hs} (a : Dr n h) (b : Dn n h h') : Dr n h' := by
  obtain ⟨ds, rfl⟩ := b
  exact ⟨ds, List.getElem?_set_self a.lt⟩
theorem Dn.refl (a : Dr n h) : Dn n h h := by
  obtain ⟨ds, e⟩ := a
  refine ⟨ds, ?_⟩
  rw [List.ext_getElem?_iff]
  intro i
  by_cases hi : n = i
  · subst hi
    rw [e, List.getElem?_set_self (List.getElem?_eq_some_iff.mp e).1]
  · rw [List.getElem?_set_ne hi]
theorem Dn.trans {h1 h2 : Hs} (a : Dn n h h1) (b : Dn n h1 h2) : Dn n h h2 := by
  obtain ⟨ds, rfl⟩ := a
  obtain ⟨es, rfl⟩ := b
  exact ⟨es, by rw [List.set_set]⟩
theorem Dn.len {h' : Hs} (b : Dn n h h') : h'.length = h.length := by
  obtain ⟨ds, rfl⟩ := b
  exact List.length_set
theorem Dr.app {e : Hs} (a : Dr n h) : Dr n (h ++ e) := by
  obtain ⟨ds, q⟩ := a
  exact ⟨ds, by rw [List.getElem?_append_left (List.getElem?_eq_some_iff.mp q).1]; exact q⟩
theorem Dn.split {e h' : Hs} (hn : n < h.length) (b : Dn n (h ++ e) h') : ∃ h1, h' = h1 ++ e ∧ Dn n h h1 := by
  obtain ⟨ds, rfl⟩ := b
  exact ⟨h.set n (.lst (ds.map fun i => .d (.int i))), by rw [List.set_append_left _ _ hn], ds, rfl⟩
theorem take_self (h : Hs) : h.take h.length = h := List.take_length
/-- _law_take -/
theorem take_w (it : Is FT f 2 2 takeB) {m : Int} (hm : 0 < m) (a : Dr n h) (q : ∀ (r : Int) h1, 0 ≤ r → r < m → Dn n h h1 → Q (.d (.int r)) h1) : Wp (cal FT (d + 1) f [.ref n, .d (.int m)]) h Q := by
  refine it.call rfl ?_
  obtain ⟨ds, e⟩ := id a
  unfold takeB
  simp only [Pe.Pw.ws, List.set_cons_zero, List.set_cons_succ, List.length_cons, List.length_nil, List.map_cons, List.map_nil, List.cons_append, List.nil_append, List.replicate_succ, List.replicate_zero, Nat.reduceSub, Nat.reduceAdd, Nat.reduceLT, true_and, and_true, if_true, Bool.false_eq_true, if_false, true_implies, false_implies, forall_const, decide_eq_true_eq, decide_eq_false_iff_not, Bool.not_eq_true', Bool.not_eq_false', reduceCtorEq, w_lenR e]
  rw [List.length_map]
  rcases List.eq_nil_or_concat ds with rfl | ⟨xs, x, rfl⟩
  · refine ⟨fun _ => ?_, fun z => absurd rfl z⟩
    rw [take_self]
    exact q 0 h (Int.le_refl _) hm (Dn.refl a)
  · rw [List.concat_eq_append] at e ⊢
    refine ⟨fun z => ?_, fun _ => ?_⟩
    · simp at z
      omega
    · rw [List.map_append] at e
      simp only [Pe.Pw.ws, List.set_cons_zero, List.set_cons_succ, List.length_cons, List.length_nil, List.map_cons, List.map_nil, List.cons_append, List.nil_append, List.replicate_succ, List.replicate_zero, Nat.reduceSub, Nat.reduceAdd, Nat.reduceLT, true_and, and_true, if_true, Bool.false_eq_true, if_false, true_implies, false_implies, forall_const, decide_eq_true_eq, decide_eq_false_iff_not, Bool.not_eq_true', Bool.not_eq_false', reduceCtorEq, w_pop e]
      refine ⟨by omega, ?_⟩
      have hl : (h.set n (.lst (xs.map fun i => PV.d (.int i)))).length = h.length := List.length_set
      rw [← hl, take_self]
      exact q _ _ (Int.fmod_nonneg_of_pos _ hm) (Int.fmod_lt_of_pos _ hm) ⟨xs, rfl⟩
def pickB (tk : Nat) : List S := [.ret (.idx (.var 1) (.call tk [(.var 0), (.blt .len [(.var 1)])]))]
theorem atI_lt {α : Type} {xs : List α} {r : Int} (h0 : 0 ≤ r) (h1 : r < xs.length) : ∃ x, L2.atI xs r = some x ∧ x ∈ xs := by
  obtain ⟨k, rfl⟩ := Int.eq_ofNat_of_zero_le h0
  have hk : k < xs.length := by omega
  exact ⟨xs[k], by rw [atI_nat]; exact List.getElem?_eq_getElem hk, List.getElem_mem hk⟩
theorem Dn.take {e h' : Hs} (b : Dn n h h') : (h' ++ e).take h.length = h' := by
  rw [← b.len]
  exact List.take_left
theorem Dn.take0 {h' : Hs} (b : Dn n h h') : h'.take h.length = h' := by
  rw [← b.len]
  exact List.take_length
/-- _law_pick of a display of data -/
theorem pick_w {tk : Nat} (ip : Is FT f 2 2 (pickB tk)) (it : Is FT tk 2 2 takeB) {ds : List D} (hm : 0 < ds.length) (a : Dr n h) (q : ∀ (r : D) h1, r ∈ ds → Dn n h h1 → Q (.d r) h1) : Wp (cal FT (d + 1 + 1) f [.ref n, .tl (ds.map .d)]) h Q := by
  refine ip.call rfl ?_
  have hl := a.lt
  unfold pickB
  have e : (h ++ [Cell.lst (ds.map .d)])[h.length]? = some (.lst (ds.map .d)) := List.getElem?_concat_length ..
  simp only [Pe.Pw.ws, List.set_cons_zero, List.set_cons_succ, List.length_cons, List.length_nil, List.map_cons, List.map_nil, List.cons_append, List.nil_append, List.replicate_succ, List.replicate_zero, Nat.reduceSub, Nat.reduceAdd, Nat.reduceLT, true_and, and_true, if_true, Bool.false_eq_true, if_false, true_implies, false_implies, forall_const, decide_eq_true_eq, decide_eq_false_iff_not, Bool.not_eq_true', Bool.not_eq_false', reduceCtorEq, conv_tld, w_lenR e, List.length_map]
  refine take_w it (by omega) a.app fun r h1 r0 r1 b => ?_
  obtain ⟨h2, rfl, b2⟩ := b.split hl
  obtain ⟨x, e2, hx⟩ := atI_lt r0 r1
  have e3 : (h2 ++ [Cell.lst (ds.map .d)])[h.length]? = some (.lst (ds.map .d)) := by
    rw [← b2.len]
    exact List.getElem?_concat_length ..
  rw [← List.length_map (f := PV.d)] at r1
  simp only [Pe.Pw.ws, List.set_cons_zero, List.set_cons_succ, List.length_cons, List.length_nil, List.map_cons, List.map_nil, List.cons_append, List.nil_append, List.replicate_succ, List.replicate_zero, Nat.reduceSub, Nat.reduceAdd, Nat.reduceLT, true_and, and_true, if_true, Bool.false_eq_true, if_false, true_implies, false_implies, forall_const, decide_eq_true_eq, decide_eq_false_iff_not, Bool.not_eq_true', Bool.not_eq_false', reduceCtorEq, w_ixR e3 (show L2.atI (ds.map PV.d) r = some (.d x) by rw [atI_map, e2]; rfl)]
  rw [b2.take]
  exact q x h2 hx b2
/-! comparing -/
/-- data no deeper than k, of sizes that fit -/
def Sm : Nat → D → Prop
  | _, .non => True
  | _, .bl _ => True
  | _, .int _ => True
  | _, .str s => PyData.strOk s = true
  | 0, .tup _ => False
  | k + 1, .tup xs => xs.length ≤ sizeLine ∧ ∀ x ∈ xs, Sm k x
theorem sm_py : ∀ (k : Nat) (x : D), Sm k x → x.py.canLay0 = true ∧ x.py.depth ≤ k := by
  have all : ∀ (k : Nat), (∀ x, Sm k x → x.py.canLay0 = true ∧ x.py.depth ≤ k) → ∀ xs : List D, (∀ x ∈ xs, Sm k x) → PyData.canLayAll0 (D.pys xs) = true ∧ PyData.depthAll (D.pys xs) ≤ k := by
    intro k ih xs
    induction xs with
    | nil => intro _; exact ⟨rfl, Nat.zero_le _⟩
    | cons x xs ih2 =>
      intro hx
      obtain ⟨a1, a2⟩ := ih x (hx x List.mem_cons_self)
      obtain ⟨b1, b2⟩ := ih2 fun y hy => hx y (List.mem_cons_of_mem _ hy)
      simp only [D.pys, PyData.canLayAll0, PyData.depthAll, a1, b1, Bool.and_self, true_and]
      omega
  have leaf : ∀ (k : Nat) (x : D), (∀ xs, x ≠ .tup xs) → Sm k x → x.py.canLay0 = true ∧ x.py.depth ≤ k := fun k x nt h => by
    cases x with
    | non => exact ⟨by simp [D.py, PyData.canLay0], by simp [D.py, PyData.depth]⟩
    | bl b => exact ⟨by simp [D.py, PyData.canLay0], by simp [D.py, PyData.depth]⟩
    | int i => exact ⟨by simp [D.py, PyData.canLay0], by simp [D.py, PyData.depth]⟩
    | str s =>
      have h' : PyData.strOk s = true := by cases k <;> exact h
      exact ⟨by simp [D.py, PyData.canLay0, h'], by simp [D.py, PyData.depth]⟩
    | tup xs => exact absurd rfl (nt xs)
  intro k
  induction k with
  | zero =>
    intro x h
    cases x with
    | tup xs => exact h.elim
    | _ => exact leaf 0 _ (fun _ e => by cases e) h
  | succ k ih =>
    intro x h
    cases x with
    | tup xs =>
      obtain ⟨a, b⟩ := all k ih xs h.2
      simp only [D.py, PyData.canLay0, PyData.depth]
      exact ⟨a, by omega⟩
    | _ => exact leaf (k + 1) _ (fun _ e => by cases e) h
theorem sm_shaped {k : Nat} {x : D} (hk : k ≤ 64) (s : Sm k x) : SeqAt.shaped x.py = true := by
  obtain ⟨a, b⟩ := sm_py k x s
  unfold SeqAt.shaped
  rw [a, decide_eq_true (by omega)]
  rfl
theorem w_eqD {k : Nat} {x y : D} {R : Bool → Hs → Prop} (hk : k ≤ 64) (sx : Sm k x) (sy : Sm k y) : Wp (cmpV .eq (.d x) (.d y)) h R ↔ R (PyData.eqv x.py y.py) h := by
  refine w_iff ?_
  show (eqPy x.py y.py).map (fun b => (b, h)) = _
  unfold eqPy
  rw [sm_shaped hk sx, sm_shaped hk sy]
  rfl
theorem bools_py (bs : List Bool) : toPysG (pyR h 4) (bs.map fun b => .d (.bl b)) = some (bs.map PyData.bool) := by
  induction bs with
  | nil => rfl
  | cons b bs ih =>
    show (match toPyG (pyR h 4) (.d (.bl b)), toPysG (pyR h 4) (bs.map fun b => PV.d (.bl b)) with
      | some y, some ys => some (y :: ys)
      | _, _ => none) = _
    rw [ih]
    rfl
theorem bools_sh (bs : List Bool) : SeqAt.shaped (.list (bs.map PyData.bool)) = true := by
  have a : PyData.canLayAll0 (bs.map PyData.bool) = true ∧ PyData.depthAll (bs.map PyData.bool) = 0 := by
    induction bs with
    | nil => exact ⟨rfl, rfl⟩
    | cons b bs ih => simp [PyData.canLayAll0, PyData.depthAll, PyData.canLay0, PyData.depth, ih]
  unfold SeqAt.shaped
  simp [PyData.canLay0, PyData.depth, a]
theorem w_ninB {bs : List Bool} {R : Bool → Hs → Prop} : Wp (cmpV .nin (.d (.bl false)) (.tl (bs.map fun b => .d (.bl b)))) h R ↔ R (bs.all id) h := by
  refine w_iff ?_
  have e : toPy h (.tl (bs.map fun b => .d (.bl b))) = some (.list (bs.map PyData.bool)) := by
    show (match toPysG (pyR h 4) (bs.map fun b => PV.d (.bl b)) with
      | some ys => some (PyData.list ys)
      | none => none) = _
    rw [bools_py]
  have e2 : inV (.d (.bl false)) (.tl (bs.map fun b => .d (.bl b))) h = some (bs.any fun b => b == false) := by
    show (match some (PyData.bool false), toPy h (.tl (bs.map fun b => .d (.bl b))) with
      | some a, some (.list ds) => if SeqAt.shaped a && SeqAt.shaped (.list ds) then some (ds.any fun z => PyData.eqv z a) else none
      | some a, some (.tuple ds) => if SeqAt.shaped a && SeqAt.shaped (.tuple ds) then some (ds.any fun z => PyData.eqv z a) else none
      | _, _ => none) = _
    rw [e]
    dsimp only
    rw [bools_sh, show SeqAt.shaped (.bool false) = true by decide +kernel]
    simp only [Bool.and_self, if_true, List.any_map]
    rfl
  show (inV (.d (.bl false)) (.tl (bs.map fun b => .d (.bl b))) h).map (fun b => (!b, h)) = _
  rw [e2]
  have e3 : ∀ bs : List Bool, (!(bs.any fun b => b == false)) = bs.all id := fun bs => by
    induction bs with
    | nil => rfl
    | cons b bs ih => cases b <;> simp_all
  rw [← e3]
  rfl
def sameB (me : Nat) : List S := [.ife (.blt (.isi [.tuple, .list]) [(.var 1)]) [.ife (.orr (.cmp .ne (.blt (.isi [.tuple]) [(.var 0)]) (.blt (.isi [.tuple]) [(.var 1)])) (.cmp .ne (.blt (.isi [.list]) [(.var 0)]) (.blt (.isi [.list]) [(.var 1)]))) [.ret (.cst (.bl false))] [], .ife (.cmp .ne (.blt .len [(.var 0)]) (.blt .len [(.var 1)])) [.ret (.cst (.bl false))] [], .ret (.cmp .nin (.cst (.bl false)) (.comp [2] (.nm 2) (.rng1 (.blt .len [(.var 1)])) false (.cst (.bl true)) (.call me [(.idx (.var 0) (.var 2)), (.idx (.var 1) (.var 2))])))] [], .ife (.orr (.cmp .ne (.blt (.isi [.bool]) [(.var 0)]) (.blt (.isi [.bool]) [(.var 1)])) (.cmp .ne (.blt (.isi [.int]) [(.var 0)]) (.blt (.isi [.int]) [(.var 1)]))) [.ret (.cst (.bl false))] [], .ife (.orr (.cmp .ne (.blt (.isi [.str]) [(.var 0)]) (.blt (.isi [.str]) [(.var 1)])) (.cmp .ne (.cmp .isN (.var 0) (.cst .non)) (.cmp .isN (.var 1) (.cst .non)))) [.ret (.cst (.bl false))] [], .ret (.cmp .eq (.var 0) (.var 1))]
theorem sm_leaf {j k : Nat} {x : D} (nt : ∀ xs, x ≠ .tup xs) (s : Sm j x) : Sm k x := by
  cases x with
  | tup xs => exact absurd rfl (nt xs)
  | str s' => cases j <;> cases k <;> exact s
  | _ => cases k <;> exact True.intro
theorem same_w (is : Is FT f 2 3 (sameB f)) : ∀ (k : Nat) (x : D) (h : Hs) (Q : PV → Hs → Prop) (d : Nat), Sm k x → k < d → Q (.d (.bl true)) h → Wp (cal FT d f [.d x, .d x]) h Q := by
  intro k
  induction k with
  | zero =>
    intro x h Q d s hd q
    obtain ⟨d, rfl⟩ : ∃ e, d = e + 1 := ⟨d - 1, by omega⟩
    refine is.call rfl ?_
    unfold sameB
    cases x with
    | tup xs => exact s.elim
    | _ => 
      simp only [Pe.Pw.ws, List.set_cons_zero, List.set_cons_succ, List.length_cons, List.length_nil, List.map_cons, List.map_nil, List.cons_append, List.nil_append, List.replicate_succ, List.replicate_zero, Nat.reduceSub, Nat.reduceAdd, Nat.reduceLT, true_and, and_true, if_true, Bool.false_eq_true, if_false, true_implies, false_implies, forall_const, decide_eq_true_eq, decide_eq_false_iff_not, Bool.not_eq_true', Bool.not_eq_false', reduceCtorEq, tyIs, List.any_cons, List.any_nil, Bool.or_false, beq_self_eq_true, w_eqD (by decide : 0 ≤ 64) s s, take_self, isNon, Bool.not_true]
      simpa [D.py, PyData.eqv] using q
  | succ k ih =>
    intro x h Q d s hd q
    obtain ⟨d, rfl⟩ : ∃ e, d = e + 1 := ⟨d - 1, by omega⟩
    cases x with
    | tup xs =>
      refine is.call rfl ?_
      unfold sameB
      simp only [Pe.Pw.ws, List.set_cons_zero, List.set_cons_succ, List.length_cons, List.length_nil, List.map_cons, List.map_nil, List.cons_append, List.nil_append, List.replicate_succ, List.replicate_zero, Nat.reduceSub, Nat.reduceAdd, Nat.reduceLT, true_and, and_true, if_true, Bool.false_eq_true, if_false, true_implies, false_implies, forall_const, decide_eq_true_eq, decide_eq_false_iff_not, Bool.not_eq_true', Bool.not_eq_false', reduceCtorEq, tyIs, List.any_cons, List.any_nil, Bool.or_false, beq_self_eq_true, take_self, Bool.true_or, Bool.false_or, Bool.not_true]
      have hz := s.1
      have hz2 : sizeLine = 2 ^ 24 := rfl
      refine ⟨fun z => absurd rfl z, fun _ => ⟨by omega, ?_⟩⟩
      refine w_clmap (rngL 0 (xs.length - 0 : Int).toNat) (fun _ => .d (.bl true)) its_rng (by rw [rngL_len]; omega) (fun x hx => ?_) ?_
      · obtain ⟨i, hi, e⟩ := List.getElem_of_mem hx
        obtain ⟨hi2, rfl⟩ := rngL_get (i := i) ((List.getElem?_eq_getElem hi).trans (congrArg some e))
        have hi3 : i < xs.length := by omega
        have ea : L2.atI xs (0 + (i : Int)) = some xs[i] := by
          rw [Int.zero_add, atI_nat]
          exact List.getElem?_eq_getElem hi3
        simp only [Pe.Pw.ws, List.set_cons_zero, List.set_cons_succ, List.length_cons, List.length_nil, List.map_cons, List.map_nil, List.cons_append, List.nil_append, List.replicate_succ, List.replicate_zero, Nat.reduceSub, Nat.reduceAdd, Nat.reduceLT, true_and, and_true, if_true, Bool.false_eq_true, if_false, true_implies, false_implies, forall_const, decide_eq_true_eq, decide_eq_false_iff_not, Bool.not_eq_true', Bool.not_eq_false', reduceCtorEq, w_ixT ea]
        exact ih _ _ _ _ (s.2 _ (List.getElem_mem hi3)) (by omega) ⟨rfl, rfl⟩
      · have e : ((rngL 0 (xs.length - 0 : Int).toNat).map fun _ => PV.d (.bl true)) = ((rngL 0 (xs.length - 0 : Int).toNat).map fun _ => true).map fun b => .d (.bl b) := by
          rw [List.map_map]
          rfl
        rw [e]
        simp only [Pe.Pw.ws, List.set_cons_zero, List.set_cons_succ, List.length_cons, List.length_nil, List.map_cons, List.map_nil, List.cons_append, List.nil_append, List.replicate_succ, List.replicate_zero, Nat.reduceSub, Nat.reduceAdd, Nat.reduceLT, true_and, and_true, if_true, Bool.false_eq_true, if_false, true_implies, false_implies, forall_const, decide_eq_true_eq, decide_eq_false_iff_not, Bool.not_eq_true', Bool.not_eq_false', reduceCtorEq, w_ninB, take_self]
        have e2 : (((rngL 0 (xs.length - 0 : Int).toNat).map fun _ => true).all id) = true := by simp
        rw [e2]
        exact q
    | _ =>
      refine is.call rfl ?_
      unfold sameB
      simp only [Pe.Pw.ws, List.set_cons_zero, List.set_cons_succ, List.length_cons, List.length_nil, List.map_cons, List.map_nil, List.cons_append, List.nil_append, List.replicate_succ, List.replicate_zero, Nat.reduceSub, Nat.reduceAdd, Nat.reduceLT, true_and, and_true, if_true, Bool.false_eq_true, if_false, true_implies, false_implies, forall_const, decide_eq_true_eq, decide_eq_false_iff_not, Bool.not_eq_true', Bool.not_eq_false', reduceCtorEq, tyIs, List.any_cons, List.any_nil, Bool.or_false, beq_self_eq_true, w_eqD (by decide : 0 ≤ 64) (sm_leaf (k := 0) (fun _ e => by cases e) s) (sm_leaf (k := 0) (fun _ e => by cases e) s), take_self, isNon, Bool.not_true]
      simpa [D.py, PyData.eqv] using q
/-! the draws -/
def I (i : Int) : PV := .d (.int i)
def drawsB : List S := [.asg (.nm 2) (.comp [7] (.nm 7) (.seq (.slc false true (.var 0) (.cst .non) (.cst (.int 63)))) false (.cst (.bl true)) (.bin .mod (.blt .int [(.var 7)]) (.bin .shl (.cst (.int 1)) (.cst (.int 7200))))), .ife (.cmp .eq (.blt .len [(.var 2)]) (.cst (.int 0))) [.ex (.mth .append (.var 2) [(.cst (.int 0))])] [], .asg (.nm 3) (.blt .list [(.var 2)]), .asg (.nm 4) (.lst []), .fr (.nm 5) (.rng1 (.var 1)) [.asg (.nm 6) (.bin .mod (.blt .int [(.var 5)]) (.blt .len [(.var 2)])), .ife (.an (.cmp .ge (.idx (.var 2) (.var 6)) (.bin .pow (.cst (.int 10)) (.cst (.int 18)))) (.cmp .gt (.idx (.var 3) (.var 6)) (.cst (.int 0)))) [.ex (.mth .append (.var 4) [(.bin .mod (.blt .int [(.idx (.var 3) (.var 6))]) (.cst (.int 1000)))]), .sub (.var 3) (.var 6) (.bin .fdiv (.idx (.var 3) (.var 6)) (.cst (.int 1000)))] [.asg (.nm 8) (.bin .mod (.blt .int [(.bin .add (.bin .add (.bin .mul (.idx (.var 2) (.var 6)) (.cst (.int 48271))) (.bin .mul (.var 5) (.cst (.int 69621)))) (.cst (.int 11)))]) (.cst (.int 2147483647))), .ex (.mth .append (.var 4) [(.bin .mod (.blt .int [(.bin .add (.bin .add (.bin .mul (.var 8) (.var 8)) (.bin .mul (.cst (.int 3)) (.var 8))) (.var 5))]) (.cst (.int 1000003)))])]], .ex (.mth .reverse (.var 4) []), .ret (.var 4)]
theorem gA {e : Hs} {k : Nat} : (h ++ e)[h.length + k]? = e[k]? := by
  rw [List.getElem?_append_right (by omega), Nat.add_sub_cancel_left]
theorem gA0 {e : Hs} {c : Cell} : (h ++ c :: e)[h.length]? = some c := gA (k := 0)
theorem sA {e : Hs} {k : Nat} {c : Cell} : (h ++ e).set (h.length + k) c = h ++ e.set k c := by
  rw [List.set_append_right _ _ (by omega), Nat.add_sub_cancel_left]
theorem sA0 {e : Hs} {b c : Cell} : (h ++ b :: e).set h.length c = h ++ c :: e := sA (k := 0)
/-- cut behind a statement -/
theorem w_cut {cf : Nat → List PV → M PV} {fb : Nat} {env : Env} {s : S} {r : List S} {F : Fl → Hs → Prop} (P : Env → Hs → Prop) (a : Wp (evS cf fb s env) h (Mid P F)) (b : ∀ e h, P e h → Wp (evSs cf fb r e) h F) : Wp (evSs cf fb (s :: r) env) h F := by
  rw [w_scons]
  refine wp_imp a fun fl h1 q => ?_
  cases fl with
  | nx e => exact b e h1 q
  | _ => exact q
theorem mulOk_r {i j : Int} (h : j.natAbs < 2 ^ 64) : mulOk i j = true := by
  unfold mulOk
  rw [decide_eq_true h, Bool.or_true]
theorem mulOk_l {i j : Int} (h : i.natAbs < 2 ^ 64) : mulOk i j = true := by
  unfold mulOk
  rw [decide_eq_true h, Bool.true_or]
theorem mapI (ds : List Int) : ds.map I = (ds.map D.int).map PV.d := by
  rw [List.map_map]
  rfl
theorem cut_mapI {xs : List Int} {lo hi : Option Int} : cutL ((xs.map D.int).map PV.d) lo hi = (cutL (xs.map D.int) lo hi).map PV.d := cutL_map
theorem p2 (n : Nat) : (1 : Int) * 2 ^ n ≠ 0 := by
  have : (0 : Int) < 2 ^ n := Int.pow_pos (by decide)
  omega
theorem cut_len {α : Type} {xs : List α} {lo hi : Option Int} : (cutL xs lo hi).length ≤ xs.length := by
  unfold cutL
  rw [List.length_take, List.length_drop]
  omega
theorem draws_w (is : Is FT f 2 9 drawsB) {ns : List Int} {many : Nat} (hl : ns.length ≤ 63) (hm : many ≤ 1000000) (q : ∀ ds : List Int, Q (.tl (ds.map I)) h) : Wp (cal FT (d + 1) f [.fl (ns.map .int), .d (.int many)]) h Q := by
  refine is.call rfl ?_
  have hz : sizeLine = 2 ^ 24 := rfl
  unfold drawsB
  have s1 : ∀ {P}, (∀ cs : List Int, cs.length ≤ 63 → P (.tl (cs.map I)) h) → Wp (evE (cal FT d) h.length (.comp [7] (.nm 7) (.seq (.slc false true (.var 0) (.cst .non) (.cst (.int 63)))) false (.cst (.bl true)) (.bin .mod (.blt .int [(.var 7)]) (.bin .shl (.cst (.int 1)) (.cst (.int 7200))))) [some (.fl (ns.map D.int)), some (.d (.int many)), none, none, none, none, none, none, none]) h P := by
    intro P p
    simp only [Pe.Pw.ws, List.set_cons_zero, List.set_cons_succ, List.length_cons, List.length_nil, List.map_cons, List.map_nil, List.cons_append, List.nil_append, List.replicate_succ, List.replicate_zero, Nat.reduceSub, Nat.reduceAdd, Nat.reduceLT, true_and, and_true, if_true, Bool.false_eq_true, if_false, true_implies, false_implies, forall_const, decide_eq_true_eq, decide_eq_false_iff_not, Bool.not_eq_true', Bool.not_eq_false', reduceCtorEq]
    rw [cut_mapI, cutL_map]
    simp only [Pe.Pw.ws, List.set_cons_zero, List.set_cons_succ, List.length_cons, List.length_nil, List.map_cons, List.map_nil, List.cons_append, List.nil_append, List.replicate_succ, List.replicate_zero, Nat.reduceSub, Nat.reduceAdd, Nat.reduceLT, true_and, and_true, if_true, Bool.false_eq_true, if_false, true_implies, false_implies, forall_const, decide_eq_true_eq, decide_eq_false_iff_not, Bool.not_eq_true', Bool.not_eq_false', reduceCtorEq]
    refine w_clmap _ (fun v => match v with
      | .d (.int i) => I (i.fmod (1 * 2 ^ (7200 : Int).toNat))
      | v => v) its_imm ?_ (fun x hx => ?_) ?_
    · rw [List.length_map, List.length_map]
      have := cut_len (xs := ns) (lo := none) (hi := some 63)
      omega
    · obtain ⟨y, hy, rfl⟩ := List.mem_map.mp hx
      obtain ⟨i, hi, rfl⟩ := List.mem_map.mp hy
      simp only [Pe.Pw.ws, List.set_cons_zero, List.set_cons_succ, List.length_cons, List.length_nil, List.map_cons, List.map_nil, List.cons_append, List.nil_append, List.replicate_succ, List.replicate_zero, Nat.reduceSub, Nat.reduceAdd, Nat.reduceLT, true_and, and_true, if_true, Bool.false_eq_true, if_false, true_implies, false_implies, forall_const, decide_eq_true_eq, decide_eq_false_iff_not, Bool.not_eq_true', Bool.not_eq_false', reduceCtorEq]
      exact ⟨by decide, p2 _, rfl⟩
    · have e : ((List.map D.int (cutL ns none (some 63))).map PV.d).map (fun v => match v with
        | .d (.int i) => I (i.fmod (1 * 2 ^ (7200 : Int).toNat))
        | v => v) = ((cutL ns none (some 63)).map fun i => i.fmod (1 * 2 ^ (7200 : Int).toNat)).map I := by
        rw [List.map_map, List.map_map, List.map_map]
        rfl
      rw [e]
      refine p _ ?_
      rw [List.length_map]
      have := cut_len (xs := ns) (lo := none) (hi := some 63)
      omega
  have cI : ∀ (xs : List Int) (h : Hs), conv (.tl (xs.map I)) h = (.ref h.length, h ++ [.lst (xs.map I)]) := fun xs h => by
    rw [mapI]
    exact conv_tld
  refine w_cut (fun e h1 => ∃ cs : List Int, cs.length ≤ 63 ∧ e = [some (.fl (ns.map D.int)), some (.d (.int many)), some (.ref h.length), none, none, none, none, none, none] ∧ h1 = h ++ [.lst (cs.map I)]) ?_ ?_
  · rw [w_asg]
    refine s1 fun cs hc => ?_
    simp only [Pe.Pw.ws, List.set_cons_zero, List.set_cons_succ, List.length_cons, List.length_nil, List.map_cons, List.map_nil, List.cons_append, List.nil_append, List.replicate_succ, List.replicate_zero, Nat.reduceSub, Nat.reduceAdd, Nat.reduceLT, true_and, and_true, if_true, Bool.false_eq_true, if_false, true_implies, false_implies, forall_const, decide_eq_true_eq, decide_eq_false_iff_not, Bool.not_eq_true', Bool.not_eq_false', reduceCtorEq, cI]
    exact ⟨cs, hc, rfl⟩
  rintro _ _ ⟨cs, hc, rfl, rfl⟩
  refine w_cut (fun e h1 => ∃ cs : List Int, 0 < cs.length ∧ cs.length ≤ 64 ∧ e = [some (.fl (ns.map D.int)), some (.d (.int many)), some (.ref h.length), none, none, none, none, none, none] ∧ h1 = h ++ [.lst (cs.map I)]) ?_ ?_
  · simp only [Pe.Pw.ws, List.set_cons_zero, List.set_cons_succ, List.length_cons, List.length_nil, List.map_cons, List.map_nil, List.cons_append, List.nil_append, List.replicate_succ, List.replicate_zero, Nat.reduceSub, Nat.reduceAdd, Nat.reduceLT, true_and, and_true, if_true, Bool.false_eq_true, if_false, true_implies, false_implies, forall_const, decide_eq_true_eq, decide_eq_false_iff_not, Bool.not_eq_true', Bool.not_eq_false', reduceCtorEq, w_lenR gA0]
    rw [List.length_map]
    refine ⟨fun z => ?_, fun z => ?_⟩
    · simp only [Pe.Pw.ws, List.set_cons_zero, List.set_cons_succ, List.length_cons, List.length_nil, List.map_cons, List.map_nil, List.cons_append, List.nil_append, List.replicate_succ, List.replicate_zero, Nat.reduceSub, Nat.reduceAdd, Nat.reduceLT, true_and, and_true, if_true, Bool.false_eq_true, if_false, true_implies, false_implies, forall_const, decide_eq_true_eq, decide_eq_false_iff_not, Bool.not_eq_true', Bool.not_eq_false', reduceCtorEq, w_app gA0 (show (cs.map I).length < sizeLine by rw [List.length_map]; omega), sA0]
      exact ⟨cs ++ [0], by simp, by simp; omega, by rw [List.map_append]; rfl⟩
    · exact ⟨cs, by omega, by omega, rfl⟩
  rintro _ _ ⟨cs, h0, hc, rfl, rfl⟩
  simp only [Pe.Pw.ws, List.set_cons_zero, List.set_cons_succ, List.length_cons, List.length_nil, List.map_cons, List.map_nil, List.cons_append, List.nil_append, List.replicate_succ, List.replicate_zero, Nat.reduceSub, Nat.reduceAdd, Nat.reduceLT, true_and, and_true, if_true, Bool.false_eq_true, if_false, true_implies, false_implies, forall_const, decide_eq_true_eq, decide_eq_false_iff_not, Bool.not_eq_true', Bool.not_eq_false', reduceCtorEq, w_listR gA0, cI]
  refine ⟨by omega, by omega, ?_⟩
  simp only [List.length_append, List.length_cons, List.length_nil, List.append_assoc, List.cons_append, List.nil_append, Nat.reduceAdd, Nat.add_assoc]
  refine w_for (rngL 0 (many - 0 : Int).toNat) (fun i e h1 => ∃ (ls ds : List Int) (e5 e6 e7 e8 : Option PV), ls.length = cs.length ∧ ds.length = i ∧
    e = [some (.fl (ns.map D.int)), some (.d (.int many)), some (.ref h.length), some (.ref (h.length + 1)), some (.ref (h.length + 2)), e5, e6, e7, e8] ∧ h1 = h ++ [.lst (cs.map I), .lst (ls.map I), .lst (ds.map I)])
    ⟨cs, [], none, none, none, none, rfl, rfl, rfl, rfl⟩ (fun i e h1 _ _ => its_rng) (fun i e h1 x ex p => ?_) fun e h1 p => ?_
  · obtain ⟨ls, ds, e5, e6, e7, e8, h2, h3, rfl, rfl⟩ := p
    obtain ⟨hi, rfl⟩ := rngL_get ex
    have r0 : 0 ≤ (0 + (i : Int)).fmod cs.length := Int.fmod_nonneg_of_pos _ (by omega)
    have r1 : (0 + (i : Int)).fmod cs.length < cs.length := Int.fmod_lt_of_pos _ (by omega)
    obtain ⟨c, ec, _⟩ := atI_lt r0 r1
    obtain ⟨l, el, _⟩ := atI_lt (xs := ls) r0 (by rw [h2]; exact r1)
    obtain ⟨j, ej, hj⟩ : ∃ j, L2.ixN ls.length ((0 + (i : Int)).fmod cs.length) = some j ∧ j < ls.length := by
      unfold L2.ixN
      rw [if_pos r0, if_pos (by rw [h2]; exact r1)]
      exact ⟨_, rfl, by omega⟩
    have ec' : L2.atI (cs.map I) ((0 + (i : Int)).fmod cs.length) = some (.d (.int c)) := by rw [atI_map, ec]; rfl
    have el' : L2.atI (ls.map I) ((0 + (i : Int)).fmod cs.length) = some (.d (.int l)) := by rw [atI_map, el]; rfl
    have g1 : (h ++ [Cell.lst (cs.map I), .lst (ls.map I), .lst (ds.map I)])[h.length + 1]? = some (.lst (ls.map I)) := gA
    have g2 : (h ++ [Cell.lst (cs.map I), .lst (ls.map I), .lst (ds.map I)])[h.length + 2]? = some (.lst (ds.map I)) := gA
    have hz2 : (ds.map I).length < sizeLine := by rw [List.length_map]; omega
    simp only [Pe.Pw.ws, List.set_cons_zero, List.set_cons_succ, List.length_cons, List.length_nil, List.map_cons, List.map_nil, List.cons_append, List.nil_append, List.replicate_succ, List.replicate_zero, Nat.reduceSub, Nat.reduceAdd, Nat.reduceLT, true_and, and_true, if_true, Bool.false_eq_true, if_false, true_implies, false_implies, forall_const, decide_eq_true_eq, decide_eq_false_iff_not, Bool.not_eq_true', Bool.not_eq_false', reduceCtorEq, w_lenR gA0, List.length_map]
    refine ⟨by omega, ?_⟩
    simp only [Pe.Pw.ws, List.set_cons_zero, List.set_cons_succ, List.length_cons, List.length_nil, List.map_cons, List.map_nil, List.cons_append, List.nil_append, List.replicate_succ, List.replicate_zero, Nat.reduceSub, Nat.reduceAdd, Nat.reduceLT, true_and, and_true, if_true, Bool.false_eq_true, if_false, true_implies, false_implies, forall_const, decide_eq_true_eq, decide_eq_false_iff_not, Bool.not_eq_true', Bool.not_eq_false', reduceCtorEq, w_ixR gA0 ec']
    have g1' : ∀ c, (h ++ [Cell.lst (cs.map I), .lst (ls.map I), c])[h.length + 1]? = some (.lst (ls.map I)) := fun _ => gA
    have ej' : L2.ixN (ls.map I).length ((0 + (i : Int)).fmod cs.length) = some j := by rw [List.length_map]; exact ej
    have dI : ∀ x, (ds.map I) ++ [PV.d (.int x)] = (ds ++ [x]).map I := fun x => by rw [List.map_append]; rfl
    have mI : ∀ x, (ls.map I).set j (PV.d (.int x)) = (ls.set j x).map I := fun x => by rw [List.map_set]; rfl
    have m0 : ∀ x : Int, 0 ≤ x.fmod 2147483647 ∧ x.fmod 2147483647 < 2147483647 := fun x => ⟨Int.fmod_nonneg_of_pos _ (by decide), Int.fmod_lt_of_pos _ (by decide)⟩
    refine ⟨by decide, fun _ => ?_, fun _ => ?_⟩
    · simp only [Pe.Pw.ws, List.set_cons_zero, List.set_cons_succ, List.length_cons, List.length_nil, List.map_cons, List.map_nil, List.cons_append, List.nil_append, List.replicate_succ, List.replicate_zero, Nat.reduceSub, Nat.reduceAdd, Nat.reduceLT, true_and, and_true, if_true, Bool.false_eq_true, if_false, true_implies, false_implies, forall_const, decide_eq_true_eq, decide_eq_false_iff_not, Bool.not_eq_true', Bool.not_eq_false', reduceCtorEq, w_ixR g1 el']
      refine ⟨fun _ => ⟨by decide, ?_⟩, fun _ => ?_⟩
      · simp only [Pe.Pw.ws, List.set_cons_zero, List.set_cons_succ, List.length_cons, List.length_nil, List.map_cons, List.map_nil, List.cons_append, List.nil_append, List.replicate_succ, List.replicate_zero, Nat.reduceSub, Nat.reduceAdd, Nat.reduceLT, true_and, and_true, if_true, Bool.false_eq_true, if_false, true_implies, false_implies, forall_const, decide_eq_true_eq, decide_eq_false_iff_not, Bool.not_eq_true', Bool.not_eq_false', reduceCtorEq, w_app g2 hz2, sA, w_ixR (g1' _) el', w_set (g1' _) ej', dI, mI]
        exact ⟨by decide, ls.set j (l.fdiv 1000), ds ++ [_], _, _, _, _, by rw [List.length_set]; exact h2, by simp [h3], rfl, rfl⟩
      · simp only [Pe.Pw.ws, List.set_cons_zero, List.set_cons_succ, List.length_cons, List.length_nil, List.map_cons, List.map_nil, List.cons_append, List.nil_append, List.replicate_succ, List.replicate_zero, Nat.reduceSub, Nat.reduceAdd, Nat.reduceLT, true_and, and_true, if_true, Bool.false_eq_true, if_false, true_implies, false_implies, forall_const, decide_eq_true_eq, decide_eq_false_iff_not, Bool.not_eq_true', Bool.not_eq_false', reduceCtorEq, w_ixR gA0 ec', w_app g2 hz2, sA, dI]
        have := m0 (c * 48271 + (0 + (i : Int)) * 69621 + 11)
        exact ⟨mulOk_r (by decide), mulOk_r (by decide), by decide, mulOk_r (by omega), mulOk_l (by decide), by decide, ls, ds ++ [_], _, _, _, _, h2, by simp [h3], rfl, rfl⟩
    · simp only [Pe.Pw.ws, List.set_cons_zero, List.set_cons_succ, List.length_cons, List.length_nil, List.map_cons, List.map_nil, List.cons_append, List.nil_append, List.replicate_succ, List.replicate_zero, Nat.reduceSub, Nat.reduceAdd, Nat.reduceLT, true_and, and_true, if_true, Bool.false_eq_true, if_false, true_implies, false_implies, forall_const, decide_eq_true_eq, decide_eq_false_iff_not, Bool.not_eq_true', Bool.not_eq_false', reduceCtorEq, w_ixR gA0 ec', w_app g2 hz2, sA, dI]
      have := m0 (c * 48271 + (0 + (i : Int)) * 69621 + 11)
      exact ⟨mulOk_r (by decide), mulOk_r (by decide), by decide, mulOk_r (by omega), mulOk_l (by decide), by decide, ls, ds ++ [_], _, _, _, _, h2, by simp [h3], rfl, rfl⟩
  · obtain ⟨ls, ds, e5, e6, e7, e8, h2, h3, rfl, rfl⟩ := p
    have g2 : (h ++ [Cell.lst (cs.map I), .lst (ls.map I), .lst (ds.map I)])[h.length + 2]? = some (.lst (ds.map I)) := gA
    simp only [Pe.Pw.ws, List.set_cons_zero, List.set_cons_succ, List.length_cons, List.length_nil, List.map_cons, List.map_nil, List.cons_append, List.nil_append, List.replicate_succ, List.replicate_zero, Nat.reduceSub, Nat.reduceAdd, Nat.reduceLT, true_and, and_true, if_true, Bool.false_eq_true, if_false, true_implies, false_implies, forall_const, decide_eq_true_eq, decide_eq_false_iff_not, Bool.not_eq_true', Bool.not_eq_false', reduceCtorEq, w_rev g2, sA]
    have g3 : (h ++ [Cell.lst (cs.map I), .lst (ls.map I), .lst (ds.map I).reverse])[h.length + 2]? = some (.lst ((ds.reverse.map D.int).map PV.d)) := by
      rw [gA, ← mapI, List.map_reverse]
      rfl
    rw [lv_own (Nat.le_add_right _ _) g3, ← mapI, List.take_left]
    exact q _
end
end Pe.Pw
/-! Pe: more plain rules. -/
namespace Pe.Pw
open PySem
section
variable {FT : List Fn} {h : Hs} {Q : PV → Hs → Prop} {n d f : Nat}
theorem eq_of_wp {α : Type} {m : M α} {a : α} {h1 : Hs} (w : Wp m h fun x h' => x = a ∧ h' = h1) : m h = some (a, h1) := by
  obtain ⟨x, h', e, rfl, rfl⟩ := wp_some w
  exact e
theorem mkTup_1 {a : D} : mkTup [.d a] = .d (.tup [a]) := rfl
theorem mkTup_2 {a b : D} : mkTup [.d a, .d b] = .d (.tup [a, b]) := rfl
theorem mkTup_3 {a b c : D} : mkTup [.d a, .d b, .d c] = .d (.tup [a, b, c]) := rfl
theorem mkTup_4 {a b c e : D} : mkTup [.d a, .d b, .d c, .d e] = .d (.tup [a, b, c, e]) := rfl
theorem sz {n : Nat} (h : n ≤ 16777216 := by omega) : n ≤ sizeLine := h
theorem pick_w2 {tk : Nat} (ip : Is FT f 2 2 (pickB tk)) (it : Is FT tk 2 2 takeB) {xs : List PV} {ds : List D} (hx : allD xs = some ds) (hm : 0 < ds.length) (a : Dr n h) (q : ∀ (r : D) h1, r ∈ ds → Dn n h h1 → Q (.d r) h1) : Wp (cal FT (d + 1 + 1) f [.ref n, .tl xs]) h Q := by
  rw [allD_some hx]
  exact pick_w ip it hm a q
/-- _law_put -/
def putB : List S := [.ret (.bin .add (.bin .add (.slc false true (.var 0) (.cst .non) (.var 1)) (.tup [(.var 2)])) (.slc true false (.var 0) (.bin .add (.var 1) (.cst (.int 1))) (.cst .non)))]
theorem put_e (is : Is FT f 3 3 putB) {xs : List D} {k : Nat} {x : D} (hl : xs.length ≤ 1000000) : cal FT (d + 1) f [.d (.tup xs), .d (.int k), .d x] h = some (.d (.tup (xs.take k ++ [x] ++ xs.drop (k + 1))), h) := by
  refine eq_of_wp (is.call rfl ?_)
  unfold putB
  simp only [Pe.Pw.ws, List.set_cons_zero, List.set_cons_succ, List.length_cons, List.length_nil, List.map_cons, List.map_nil, List.cons_append, List.nil_append, List.replicate_succ, List.replicate_zero, Nat.reduceSub, Nat.reduceAdd, Nat.reduceLT, true_and, and_true, if_true, Bool.false_eq_true, if_false, true_implies, false_implies, forall_const, decide_eq_true_eq, decide_eq_false_iff_not, Bool.not_eq_true', Bool.not_eq_false', reduceCtorEq, mkTup_1, take_self]
  have e : ((k : Int) + 1) = ((k + 1 : Nat) : Int) := by omega
  rw [e, cut_hi, cut_lo]
  simp only [List.length_append, List.length_take, List.length_drop, List.length_cons, List.length_nil]
  exact ⟨sz, sz, sz, trivial⟩
/-- a comprehension over the pictures of plain things -/
theorem w_clx {α : Type} {f : PV → M (Option PV)} {iv : ItV} {C : List PV → Hs → Prop} (xs : List α) (tod g : α → PV) (hi : Its iv h (xs.map tod)) (z : xs.length ≤ sizeLine)
    (st : ∀ x ∈ xs, Wp (f (tod x)) h fun o h1 => o = some (g x) ∧ h1 = h) (fin : C (xs.map g) h) : Wp (cloop f iv (iv.fuel h) 0 []) h C := by
  refine w_cl (xs.map tod) (fun i acc h1 => h1 = h ∧ acc = (xs.take i).map g) ⟨rfl, rfl⟩ (fun i acc h1 _ p => by rw [p.1]; exact hi) (fun i acc h1 y e p => ?_) fun acc h1 p => ?_
  · obtain ⟨rfl, rfl⟩ := p
    rw [List.getElem?_map] at e
    cases q : xs[i]? with
    | none => rw [q] at e; cases e
    | some x =>
      rw [q] at e
      cases e
      refine wp_imp (st x (List.mem_of_getElem? q)) fun o h2 w => ?_
      obtain ⟨rfl, rfl⟩ := w
      have hlt := (List.getElem?_eq_some_iff.mp q).1
      refine ⟨⟨rfl, ?_⟩, ?_⟩
      · rw [List.take_add_one, q, List.map_append]
        rfl
      · rw [List.length_map, List.length_take]
        omega
  · obtain ⟨rfl, rfl⟩ := p
    rw [List.length_map, List.take_length]
    exact fin
/-- .. whose items are truth values -/
theorem w_clb {α : Type} {f : PV → M (Option PV)} {iv : ItV} {C : List PV → Hs → Prop} (xs : List α) (tod : α → PV) (p : α → Bool) (hi : Its iv h (xs.map tod)) (z : xs.length ≤ sizeLine)
    (st : ∀ x ∈ xs, Wp (f (tod x)) h fun o h1 => o = some (.d (.bl (p x))) ∧ h1 = h) (fin : C ((xs.map p).map fun b => .d (.bl b)) h) : Wp (cloop f iv (iv.fuel h) 0 []) h C := by
  refine w_clx xs tod (fun x => .d (.bl (p x))) hi z st ?_
  rw [List.map_map] at fin
  exact fin
/-- walking a tuple of pictures -/
theorem w_forT {α : Type} {cf : Nat → List PV → M PV} {fb : Nat} {env : Env} {F : Fl → Hs → Prop} {t : T} {b : List S} (xs : List α) (tod : α → D) (P : Nat → Env → Hs → Prop) (p0 : P 0 env h)
    (st : ∀ i env h x, xs[i]? = some x → P i env h → Wp (bindT t (.d (tod x)) env) h fun e h => Wp (evSs cf fb b e) h (FStep (P (i + 1)) F)) (fin : ∀ env h, P xs.length env h → F (.nx env) h) :
    Wp (floop t (evSs cf fb b) (.seq (.imm ((xs.map tod).map PV.d))) ((ItV.seq (.imm ((xs.map tod).map PV.d))).fuel h) 0 env) h F := by
  refine w_for ((xs.map tod).map PV.d) P p0 (fun _ _ _ _ _ => its_imm) (fun i env h x e p => ?_) fun e h p => ?_
  · rw [List.getElem?_map, List.getElem?_map] at e
    cases q : xs[i]? with
    | none => rw [q] at e; cases e
    | some y =>
      rw [q] at e
      cases e
      exact st i env h y q p
  · rw [List.length_map, List.length_map] at p
    exact fin e h p
theorem w_forN {cf : Nat → List PV → M PV} {fb : Nat} {env : Env} {F : Fl → Hs → Prop} {t : T} {b : List S} {lo : Int} {n : Nat} (P : Nat → Env → Hs → Prop) (p0 : P 0 env h)
    (st : ∀ i env h, i < n → P i env h → Wp (bindT t (.d (.int (lo + i))) env) h fun e h => Wp (evSs cf fb b e) h (FStep (P (i + 1)) F)) (fin : ∀ env h, P n env h → F (.nx env) h) :
    Wp (floop t (evSs cf fb b) (.rng lo n) ((ItV.rng lo n).fuel h) 0 env) h F := by
  refine w_for (rngL lo n) P p0 (fun _ _ _ _ _ => its_rng) (fun i env h x e p => ?_) fun e h p => ?_
  · obtain ⟨hi, rfl⟩ := rngL_get e
    exact st i env h hi p
  · rw [rngL_len] at p
    exact fin e h p
theorem w_clN {f : PV → M (Option PV)} {lo : Int} {n : Nat} {C : List PV → Hs → Prop} (P : Nat → List PV → Hs → Prop) (p0 : P 0 [] h)
    (st : ∀ i acc h, i < n → P i acc h → Wp (f (.d (.int (lo + i)))) h (CStep (P (i + 1)) acc)) (fin : ∀ acc h, P n acc h → C acc h) : Wp (cloop f (.rng lo n) ((ItV.rng lo n).fuel h) 0 []) h C := by
  refine w_cl (rngL lo n) P p0 (fun _ _ _ _ _ => its_rng) (fun i acc h x e p => ?_) fun e h p => ?_
  · obtain ⟨hi, rfl⟩ := rngL_get e
    exact st i acc h hi p
  · rw [rngL_len] at p
    exact fin e h p
/-! a frame's own first cell -/
theorem app_none {fb : Nat} {xs : List PV} {x : D} (e : h[n]? = some (.lst xs)) (z : ¬ xs.length < sizeLine) : mthV fb .append (.ref n) [.d x] h = none := by
  show (match h[n]? with
      | some (.lst xs) => if (true && decide (xs.length < sizeLine)) = true then some (PV.d .non, h.set n (.lst (xs ++ [PV.d x]))) else none
      | none => none) = _
  rw [e]
  dsimp only
  rw [decide_eq_false z]
  rfl
theorem w_app0 {fb : Nat} {xs : List PV} {x : D} {e : Hs} : Wp (mthV fb .append (.ref h.length) [.d x]) (h ++ .lst xs :: e) Q ↔ xs.length < sizeLine ∧ Q (.d .non) (h ++ .lst (xs ++ [.d x]) :: e) := by
  by_cases z : xs.length < sizeLine
  · rw [w_app gA0 z, sA0]
    exact ⟨fun q => ⟨z, q⟩, fun q => q.2⟩
  · refine ⟨fun q => ?_, fun q => absurd q.1 z⟩
    obtain ⟨a, h1, e1, _⟩ := wp_some q
    rw [app_none gA0 z] at e1
    cases e1
theorem lv_own0 {xs : List PV} {ds : List D} {e : Hs} (hx : allD xs = some ds) : Lv h.length Q (.rt (.ref h.length)) (h ++ .lst xs :: e) ↔ Q (.tl xs) h := by
  have := allD_some hx
  subst this
  rw [lv_own (Nat.le_refl _) gA0, List.take_left]
theorem pickI_w {tk : Nat} (ip : Is FT f 2 2 (pickB tk)) (it : Is FT tk 2 2 takeB) {xs : List PV} (is : List Int) (hx : xs = (is.map D.int).map PV.d) (hm : 0 < is.length) (a : Dr n h) (q : ∀ (r : Int) h1, r ∈ is → Dn n h h1 → Q (.d (.int r)) h1) : Wp (cal FT (d + 1 + 1) f [.ref n, .tl xs]) h Q := by
  rw [hx]
  refine pick_w ip it (by rw [List.length_map]; exact hm) a fun r h1 hr b => ?_
  obtain ⟨i, hi, rfl⟩ := List.mem_map.mp hr
  exact q i h1 hi b
end
end Pe.Pw
/-! Pe: towns, and the defs about them that stand in many laws. -/
namespace Pe.Pw
open PySem
/-- a place: its mark, its doors -/
abbrev Pl := Str × List (Option Nat)
def oN : Option Nat → D
  | none => .non
  | some g => .int (g : Nat)
abbrev doorsD (ds : List (Option Nat)) : D := .tup (ds.map oN)
abbrev plD (p : Pl) : D := .tup [.str p.1, doorsD p.2]
abbrev townD (t : List Pl) : D := .tup (t.map plD)
abbrev walkD (w : List Nat) : D := .tup (w.map fun d => .int (d : Nat))
structure TownOk (t : List Pl) : Prop where
  len : t.length ≤ 100
  doors : ∀ p ∈ t, p.2.length ≤ 100
  goals : ∀ p ∈ t, ∀ g, some g ∈ p.2 → g < t.length
  mark : ∀ p ∈ t, PyData.strOk p.1 = true ∧ p.1.length ≤ 100000
section
variable {FT : List Fn} {h : Hs} {Q : PV → Hs → Prop} {n d f : Nat}
end
end Pe.Pw
/-! Pe: towns: what walks show. -/
namespace Pe.Pw
open PySem
section
variable {FT : List Fn} {h : Hs} {Q : PV → Hs → Prop} {n d f : Nat}
end
end Pe.Pw
/-! Pe: drawn words. -/
namespace Pe.Pw
open PySem
/-- a text of plain signs, no longer than m -/
def SOk (m : Nat) (s : Str) : Prop := PyData.strOk s = true ∧ s.length ≤ m
theorem SOk.mono {m k : Nat} {s : Str} (a : SOk m s) (h : m ≤ k) : SOk k s := ⟨a.1, Nat.le_trans a.2 h⟩
def AOk (m : Nat) (a : Array Nat) : Prop := a.all (· < 0x110000) = true ∧ a.size ≤ m
theorem AOk.app {m k : Nat} {a b : Array Nat} (x : AOk m a) (y : AOk k b) : AOk (m + k) (a ++ b) := by
  refine ⟨?_, ?_⟩
  · rw [Array.all_append, x.1, y.1]
    rfl
  · rw [Array.size_append]
    have := x.2
    have := y.2
    omega
abbrev sD (s : Str) : D := .str s
section
variable {FT : List Fn} {h : Hs} {Q : PV → Hs → Prop} {n d f : Nat}
theorem w_lrg {cf : Nat → List PV → M PV} {fb : Nat} {env : Env} {t : Bool} {a : E} : Wp (evE cf fb (.lrg t a) env) h Q ↔ Wp (evE cf fb a env) h fun x h => Wp (lrgV t x) h Q := by
  have e : evE cf fb (.lrg t a) env = M.bnd (evE cf fb a env) fun x => lrgV t x := rfl
  rw [e]
  exact w_bnd
end
end Pe.Pw
/-! Pe: shuffled rows, open doors, drawn walks. -/
namespace Pe.Pw
open PySem
theorem map_erase {α β : Type} (f : α → β) : ∀ (l : List α) (j : Nat), (l.map f).eraseIdx j = (l.eraseIdx j).map f
  | [], _ => rfl
  | _ :: _, 0 => rfl
  | x :: l, j + 1 => by
    rw [List.map_cons, List.eraseIdx_cons_succ, List.eraseIdx_cons_succ, List.map_cons, map_erase f l j]
theorem perm_erase {α : Type} : ∀ (l : List α) (j : Nat) (hj : j < l.length), (l[j] :: l.eraseIdx j).Perm l
  | x :: l, 0, _ => List.Perm.refl _
  | x :: l, j + 1, hj => by
    rw [List.eraseIdx_cons_succ, List.getElem_cons_succ]
    exact (List.Perm.swap _ _ _).trans (List.Perm.cons _ (perm_erase l j (by simpa using hj)))
section
variable {FT : List Fn} {h : Hs} {Q : PV → Hs → Prop} {n d f : Nat}
theorem w_popAt {fb c : Nat} {xs : List PV} {k : Int} {j : Nat} {v : PV} (e : h[c]? = some (.lst xs)) (e2 : L2.ixN xs.length k = some j) (e3 : xs[j]? = some v) (hk : -(2 ^ 63) ≤ k ∧ k < 2 ^ 63) : Wp (mthV fb .popAt (.ref c) [.d (.int k)]) h Q ↔ Q v (h.set c (.lst (xs.eraseIdx j))) := by
  refine w_iff ?_
  show (match h[c]? with
    | some (.lst xs) => match L2.ixN xs.length k with
      | some j => match xs[j]? with
        | some v => if -(2 ^ 63) ≤ k ∧ k < 2 ^ 63 then some (v, h.set c (.lst (xs.eraseIdx j))) else none
        | none => none
      | none => none
    | none => none) = _
  rw [e]
  dsimp only
  rw [e2]
  dsimp only
  rw [e3]
  dsimp only
  rw [if_pos hk]
def shufB (tk : Nat) : List S := [.asg (.nm 2) (.blt .list [(.var 1)]), .asg (.nm 3) (.lst []), .fr (.nm 4) (.rng1 (.blt .len [(.var 2)])) [.ex (.mth .append (.var 3) [(.mth .popAt (.var 2) [(.call tk [(.var 0), (.blt .len [(.var 2)])])])])], .ret (.var 3)]
theorem shuf_w {tk : Nat} (is : Is FT f 2 5 (shufB tk)) (it : Is FT tk 2 2 takeB) {xs : List D} (hx : xs.length ≤ 100000) (a : Dr n h) (q : ∀ (ys : List D) h1, ys.Perm xs → Dn n h h1 → Q (.tl (ys.map .d)) h1) : Wp (cal FT (d + 2) f [.ref n, .tl (xs.map .d)]) h Q := by
  refine is.call rfl ?_
  unfold shufB
  have hz : sizeLine = 2 ^ 24 := rfl
  have hn := a.lt
  rw [convs_cons, convs_cons, conv_ref]
  simp only [Pe.Pw.ws, List.set_cons_zero, List.set_cons_succ, List.length_cons, List.length_nil, List.map_cons, List.map_nil, List.cons_append, List.nil_append, List.replicate_succ, List.replicate_zero, Nat.reduceSub, Nat.reduceAdd, Nat.reduceLT, true_and, and_true, if_true, Bool.false_eq_true, if_false, true_implies, false_implies, forall_const, decide_eq_true_eq, decide_eq_false_iff_not, Bool.not_eq_true', Bool.not_eq_false', reduceCtorEq, conv_tld, w_listR gA0]
  simp only [List.append_assoc, List.length_append, List.length_cons, List.length_nil, List.cons_append, List.nil_append, Nat.reduceAdd, Nat.add_assoc]
  have g1 : (h ++ [Cell.lst (xs.map .d), .lst (xs.map .d), .lst []])[h.length + 1]? = some (.lst (xs.map .d)) := gA
  simp only [Pe.Pw.ws, List.set_cons_zero, List.set_cons_succ, List.length_cons, List.length_nil, List.map_cons, List.map_nil, List.cons_append, List.nil_append, List.replicate_succ, List.replicate_zero, Nat.reduceSub, Nat.reduceAdd, Nat.reduceLT, true_and, and_true, if_true, Bool.false_eq_true, if_false, true_implies, false_implies, forall_const, decide_eq_true_eq, decide_eq_false_iff_not, Bool.not_eq_true', Bool.not_eq_false', reduceCtorEq, w_lenR g1, List.length_map]
  refine ⟨sz, by omega, ?_⟩
  rw [show ((xs.length : Int) - 0).toNat = xs.length by omega]
  refine w_forN (fun i e hh => ∃ (ls ts : List D) (e4 : Option PV) (h' : Hs), ts.length = i ∧ (ts ++ ls).Perm xs ∧ Dn n h h' ∧ e = [some (.ref n), some (.ref h.length), some (.ref (h.length + 1)), some (.ref (h.length + 2)), e4] ∧ hh = h' ++ [.lst (xs.map .d), .lst (ls.map .d), .lst (ts.map .d)])
    ⟨xs, [], none, h, rfl, List.Perm.refl _, .refl a, rfl, rfl⟩ (fun i e hh hi p => ?_) fun e hh p => ?_
  · obtain ⟨ls, ts, e4, h', rfl, pm, b, rfl, rfl⟩ := p
    have hl := pm.length_eq
    rw [List.length_append] at hl
    rw [← b.len]
    have g2 : (h' ++ [Cell.lst (xs.map .d), .lst (ls.map .d), .lst (ts.map .d)])[h'.length + 1]? = some (.lst (ls.map .d)) := gA
    simp only [Pe.Pw.ws, List.set_cons_zero, List.set_cons_succ, List.length_cons, List.length_nil, List.map_cons, List.map_nil, List.cons_append, List.nil_append, List.replicate_succ, List.replicate_zero, Nat.reduceSub, Nat.reduceAdd, Nat.reduceLT, true_and, and_true, if_true, Bool.false_eq_true, if_false, true_implies, false_implies, forall_const, decide_eq_true_eq, decide_eq_false_iff_not, Bool.not_eq_true', Bool.not_eq_false', reduceCtorEq, w_lenR g2, List.length_map]
    refine take_w it (by omega) (b.dr a).app fun r g3 r0 r1 b1 => ?_
    obtain ⟨h1, rfl, c1⟩ := b1.split (by rw [b.len]; exact hn)
    have d1 := b.trans c1
    rw [show h'.length = h1.length by rw [b.len, d1.len]]
    obtain ⟨j, rfl⟩ := Int.eq_ofNat_of_zero_le r0
    have hj : j < ls.length := by omega
    have g4 : (h1 ++ [Cell.lst (xs.map .d), .lst (ls.map .d), .lst (ts.map .d)])[h1.length + 1]? = some (.lst (ls.map .d)) := gA
    have ej : L2.ixN (ls.map PV.d).length (j : Int) = some j := by
      unfold L2.ixN
      rw [if_pos (by omega), if_pos (by rw [List.length_map]; omega), Int.toNat_natCast]
    have ev : (ls.map PV.d)[j]? = some (.d ls[j]) := by
      rw [List.getElem?_map, List.getElem?_eq_getElem hj]
      rfl
    have em : (ls.map PV.d).eraseIdx j = (ls.eraseIdx j).map .d := by
      rw [map_erase]
    have g5 : (h1 ++ [Cell.lst (xs.map .d), .lst ((ls.eraseIdx j).map .d), .lst (ts.map .d)])[h1.length + 2]? = some (.lst (ts.map .d)) := gA
    have z1 : (ts.map PV.d).length < sizeLine := by rw [List.length_map]; omega
    simp only [Pe.Pw.ws, List.set_cons_zero, List.set_cons_succ, List.length_cons, List.length_nil, List.map_cons, List.map_nil, List.cons_append, List.nil_append, List.replicate_succ, List.replicate_zero, Nat.reduceSub, Nat.reduceAdd, Nat.reduceLT, true_and, and_true, if_true, Bool.false_eq_true, if_false, true_implies, false_implies, forall_const, decide_eq_true_eq, decide_eq_false_iff_not, Bool.not_eq_true', Bool.not_eq_false', reduceCtorEq, w_popAt g4 ej ev ⟨by omega, by omega⟩, em, sA, w_app g5 z1]
    refine ⟨ls.eraseIdx j, ts ++ [ls[j]], some (.d (.int (0 + (ts.length : Int)))), h1, by simp, ?_, d1, by rw [d1.len], by simp⟩
    refine List.Perm.trans ?_ pm
    rw [List.append_assoc]
    refine List.Perm.append_left _ ?_
    exact perm_erase ls j hj
  · obtain ⟨ls, ts, e4, h', hl, pm, b, rfl, rfl⟩ := p
    have h2 := pm.length_eq
    rw [List.length_append] at h2
    have e0 : ls = [] := List.length_eq_zero_iff.mp (by omega)
    subst e0
    rw [List.append_nil] at pm
    rw [← b.len]
    simp only [Pe.Pw.ws, List.set_cons_zero, List.set_cons_succ, List.length_cons, List.length_nil, List.map_cons, List.map_nil, List.cons_append, List.nil_append, List.replicate_succ, List.replicate_zero, Nat.reduceSub, Nat.reduceAdd, Nat.reduceLT, true_and, and_true, if_true, Bool.false_eq_true, if_false, true_implies, false_implies, forall_const, decide_eq_true_eq, decide_eq_false_iff_not, Bool.not_eq_true', Bool.not_eq_false', reduceCtorEq]
    have g6 : (h' ++ [Cell.lst (xs.map .d), .lst (([] : List D).map .d), .lst (ts.map .d)])[h'.length + 2]? = some (.lst (ts.map .d)) := gA
    rw [show (h' ++ [Cell.lst (xs.map .d), .lst [], .lst (ts.map .d)]) = (h' ++ [Cell.lst (xs.map .d), .lst (([] : List D).map .d), .lst (ts.map .d)]) from rfl, lv_own (Nat.le_add_right _ _) g6, List.take_left]
    exact q ts h' pm b
/-- _law_pick of a list in a cell -/
theorem pick_r {tk c : Nat} (ip : Is FT f 2 2 (pickB tk)) (it : Is FT tk 2 2 takeB) {ds : List D} (hc : h[c]? = some (.lst (ds.map .d))) (nc : c ≠ n) (hm : 0 < ds.length) (a : Dr n h) (q : ∀ (r : D) h1, r ∈ ds → Dn n h h1 → Q (.d r) h1) : Wp (cal FT (d + 2) f [.ref n, .ref c]) h Q := by
  refine ip.call rfl ?_
  unfold pickB
  simp only [Pe.Pw.ws, List.set_cons_zero, List.set_cons_succ, List.length_cons, List.length_nil, List.map_cons, List.map_nil, List.cons_append, List.nil_append, List.replicate_succ, List.replicate_zero, Nat.reduceSub, Nat.reduceAdd, Nat.reduceLT, true_and, and_true, if_true, Bool.false_eq_true, if_false, true_implies, false_implies, forall_const, decide_eq_true_eq, decide_eq_false_iff_not, Bool.not_eq_true', Bool.not_eq_false', reduceCtorEq, w_lenR hc, List.length_map]
  refine take_w it (by omega) a fun r h1 r0 r1 b => ?_
  obtain ⟨j, rfl⟩ := Int.eq_ofNat_of_zero_le r0
  have hj : j < ds.length := by omega
  have hc1 : h1[c]? = some (.lst (ds.map .d)) := by
    obtain ⟨es, rfl⟩ := b
    rw [List.getElem?_set_ne (by omega)]
    exact hc
  have e : L2.atI (ds.map PV.d) (j : Int) = some (.d ds[j]) := by
    rw [atI_map, atI_nat, List.getElem?_eq_getElem hj]
    rfl
  simp only [Pe.Pw.ws, List.set_cons_zero, List.set_cons_succ, List.length_cons, List.length_nil, List.map_cons, List.map_nil, List.cons_append, List.nil_append, List.replicate_succ, List.replicate_zero, Nat.reduceSub, Nat.reduceAdd, Nat.reduceLT, true_and, and_true, if_true, Bool.false_eq_true, if_false, true_implies, false_implies, forall_const, decide_eq_true_eq, decide_eq_false_iff_not, Bool.not_eq_true', Bool.not_eq_false', reduceCtorEq, w_ixR hc1 e, b.take0]
  exact q _ h1 (List.getElem_mem hj) b
end
end Pe.Pw
/-! Pe: drawn towns. -/
namespace Pe.Pw
open PySem
/-- a place that fits a town of so many places -/
structure PlOk (size wide : Nat) (p : Pl) : Prop where
  doors : p.2.length ≤ wide
  goals : ∀ g, some g ∈ p.2 → g < size
  mark : SOk 2000 p.1
section
variable {FT : List Fn} {h : Hs} {Q : PV → Hs → Prop} {n d f : Nat}
end
end Pe.Pw
/-! Pe: list.index; two lists compared. -/
namespace Pe.Pw
open PySem
section
variable {FT : List Fn} {h : Hs} {Q : PV → Hs → Prop} {n d f : Nat}
end
end Pe.Pw
/-! Pe: a town renamed. -/
namespace Pe.Pw
open PySem
section
variable {FT : List Fn} {h : Hs} {Q : PV → Hs → Prop} {n d f : Nat}
theorem w_lrgF {j : Nat} (hj : j ≤ 16777216) : Wp (lrgV false (.d (.int (j : Nat)))) h Q ↔ Q (.tl (((List.range j).map fun i => D.int ((i : Nat) : Int)).map .d)) h := by
  refine w_iff ?_
  show (if -(2 ^ 62) ≤ (j : Int) ∧ (j : Int) ≤ 16777216 then some (PV.tl ((List.range (j : Int).toNat).map fun i => PV.d (.int ((i : Nat) : Int))), h) else none) = _
  rw [if_pos ⟨by omega, by omega⟩, Int.toNat_natCast, List.map_map]
  rfl
end
end Pe.Pw
/-! Pe: members of lists and tuples of data. -/
namespace Pe.Pw
open PySem
section
variable {FT : List Fn} {h : Hs} {Q : PV → Hs → Prop} {n d f : Nat}
theorem ds_pyg (g : Nat → Option PyData) (xs : List D) : toPysG g (xs.map PV.d) = some (xs.map D.py) := by
  induction xs with
  | nil => rfl
  | cons b bs ih =>
    show (match toPyG g (.d b), toPysG g (bs.map PV.d) with
      | some y, some ys => some (y :: ys)
      | _, _ => none) = _
    rw [ih]
    rfl
theorem ds_sh {k : Nat} {xs : List D} (hk : k < 64) (hx : ∀ x ∈ xs, Sm k x) : SeqAt.shaped (.list (xs.map D.py)) = true := by
  have a : PyData.canLayAll0 (xs.map D.py) = true ∧ PyData.depthAll (xs.map D.py) ≤ k := by
    induction xs with
    | nil => exact ⟨rfl, Nat.zero_le _⟩
    | cons b bs ih =>
      have i := ih fun w h => hx w (List.mem_cons_of_mem _ h)
      have b1 := sm_py _ _ (hx b List.mem_cons_self)
      simp only [List.map_cons, PyData.canLayAll0, PyData.depthAll, i, b1, Bool.and_self, true_and]
      omega
  have b : (PyData.list (xs.map D.py)).canLay0 = true ∧ (PyData.list (xs.map D.py)).depth ≤ k + 1 := by
    simp only [PyData.canLay0, PyData.depth, a, true_and]
    omega
  unfold SeqAt.shaped
  rw [b.1, decide_eq_true (by omega)]
  rfl
theorem toPy_tlD {xs : List D} : toPy h (.tl (xs.map .d)) = some (.list (xs.map D.py)) := by
  show (match toPysG (pyR h 4) (xs.map PV.d) with
    | some ys => some (PyData.list ys)
    | none => none) = _
  rw [ds_pyg]
/-- a comprehension that keeps some, over the pictures of plain things, and changes nothing -/
theorem w_clf {α : Type} {f : PV → M (Option PV)} {iv : ItV} {C : List PV → Hs → Prop} (xs : List α) (tod : α → PV) (g : α → Option PV) (hi : Its iv h (xs.map tod)) (z : xs.length ≤ sizeLine)
    (st : ∀ x ∈ xs, Wp (f (tod x)) h fun o h1 => o = g x ∧ h1 = h) (fin : C (xs.filterMap g) h) : Wp (cloop f iv (iv.fuel h) 0 []) h C := by
  refine w_cl (xs.map tod) (fun i acc h1 => h1 = h ∧ acc = (xs.take i).filterMap g) ⟨rfl, rfl⟩ (fun i acc h1 _ p => by rw [p.1]; exact hi) (fun i acc h1 y e p => ?_) fun acc h1 p => ?_
  · obtain ⟨rfl, rfl⟩ := p
    rw [List.getElem?_map] at e
    cases q : xs[i]? with
    | none => rw [q] at e; cases e
    | some x =>
      rw [q] at e
      cases e
      refine wp_imp (st x (List.mem_of_getElem? q)) fun o h2 w => ?_
      obtain ⟨rfl, rfl⟩ := w
      have hlt := (List.getElem?_eq_some_iff.mp q).1
      have tk : xs.take (i + 1) = xs.take i ++ [x] := by rw [List.take_add_one, q]; rfl
      cases gx : g x with
      | none =>
        refine ⟨rfl, ?_⟩
        rw [tk, List.filterMap_append]
        simp [gx]
      | some y =>
        refine ⟨⟨rfl, ?_⟩, ?_⟩
        · rw [tk, List.filterMap_append]
          simp [gx]
        · have := List.length_filterMap_le g (xs.take i)
          rw [List.length_take] at this
          omega
  · obtain ⟨rfl, rfl⟩ := p
    rw [List.length_map, List.take_length]
    exact fin
end
/-! equality of data that hold no truth values -/
mutual
def nbD : D → Bool
  | .bl _ => false
  | .tup xs => nbsD xs
  | _ => true
def nbsD : List D → Bool
  | [] => true
  | x :: xs => nbD x && nbsD xs
end
theorem nbs_iff {xs : List D} : nbsD xs = true ↔ ∀ x ∈ xs, nbD x = true := by
  induction xs with
  | nil => simp [nbsD]
  | cons x xs ih => simp [nbsD, ih]
mutual
theorem eqv_nb : ∀ (x y : D), nbD x = true → nbD y = true → (PyData.eqv x.py y.py = true ↔ x = y)
  | .non, .non, _, _ => by simp [D.py, PyData.eqv]
  | .non, .int _, _, _ => by simp [D.py, PyData.eqv]
  | .non, .str _, _, _ => by simp [D.py, PyData.eqv]
  | .non, .tup _, _, _ => by simp [D.py, PyData.eqv]
  | .int _, .non, _, _ => by simp [D.py, PyData.eqv]
  | .int _, .int _, _, _ => by simp [D.py, PyData.eqv]
  | .int _, .str _, _, _ => by simp [D.py, PyData.eqv]
  | .int _, .tup _, _, _ => by simp [D.py, PyData.eqv]
  | .str _, .non, _, _ => by simp [D.py, PyData.eqv]
  | .str _, .int _, _, _ => by simp [D.py, PyData.eqv]
  | .str _, .str _, _, _ => by simp [D.py, PyData.eqv]
  | .str _, .tup _, _, _ => by simp [D.py, PyData.eqv]
  | .tup _, .non, _, _ => by simp [D.py, PyData.eqv]
  | .tup _, .int _, _, _ => by simp [D.py, PyData.eqv]
  | .tup _, .str _, _, _ => by simp [D.py, PyData.eqv]
  | .tup xs, .tup ys, a, b => by
    simp only [D.py, PyData.eqv, D.tup.injEq]
    exact eqv_nbs xs ys (by simpa [nbD] using a) (by simpa [nbD] using b)
  | .bl _, _, a, _ => by simp [nbD] at a
  | .non, .bl _, _, b => by simp [nbD] at b
  | .int _, .bl _, _, b => by simp [nbD] at b
  | .str _, .bl _, _, b => by simp [nbD] at b
  | .tup _, .bl _, _, b => by simp [nbD] at b
theorem eqv_nbs : ∀ (xs ys : List D), nbsD xs = true → nbsD ys = true → (PyData.eqvAll (D.pys xs) (D.pys ys) = true ↔ xs = ys)
  | [], [], _, _ => by simp [D.pys, PyData.eqvAll]
  | [], _ :: _, _, _ => by simp [D.pys, PyData.eqvAll]
  | _ :: _, [], _, _ => by simp [D.pys, PyData.eqvAll]
  | x :: xs, y :: ys, a, b => by
    simp only [nbsD, Bool.and_eq_true] at a b
    simp only [D.pys, PyData.eqvAll, Bool.and_eq_true, List.cons.injEq]
    rw [eqv_nb x y a.1 b.1, eqv_nbs xs ys a.2 b.2]
end
end Pe.Pw
/-! Clo: least ways; a table widened by one arc; Floyd's table. Plain. -/
namespace Clo
abbrev Arc := Nat × Nat × Int
inductive Way (A : List Arc) : Nat → Nat → Int → Prop
  | nil (x : Nat) : Way A x x 0
  | cons {a b y : Nat} {w v : Int} (h : (a, b, w) ∈ A) (t : Way A b y v) : Way A a y (w + v)
theorem Way.mono {A B : List Arc} (h : ∀ a ∈ A, a ∈ B) {x y : Nat} {v : Int} (w : Way A x y v) : Way B x y v := by
  induction w with
  | nil x => exact .nil x
  | cons m _ ih => exact .cons (h _ m) ih
theorem Way.app {A : List Arc} {x y z : Nat} {v u : Int} (w : Way A x y v) (t : Way A y z u) : Way A x z (v + u) := by
  induction w with
  | nil x => rw [Int.zero_add]; exact t
  | cons m _ ih => rw [Int.add_assoc]; exact .cons m (ih t)
theorem Way.one {A : List Arc} {a b : Nat} {w : Int} (h : (a, b, w) ∈ A) : Way A a b w := by
  have := Way.cons h (.nil b)
  rwa [Int.add_zero] at this
def le (o : Option Int) (v : Int) : Prop := ∃ u, o = some u ∧ u ≤ v
theorem le.mono {o : Option Int} {v u : Int} (h : le o v) (e : v ≤ u) : le o u := by
  obtain ⟨w, rfl, l⟩ := h
  exact ⟨w, rfl, by omega⟩
/-- a table of functions: the least ways -/
structure Cl (m : Nat) (A : List Arc) (T : Nat → Nat → Option Int) : Prop where
  way : ∀ x y u, x < m → y < m → T x y = some u → Way A x y u
  least : ∀ x y v, x < m → y < m → Way A x y v → le (T x y) v
  diag : ∀ x, x < m → T x x = some 0
def Clash (m : Nat) (A : List Arc) : Prop := ∃ x v, x < m ∧ Way A x x v ∧ v < 0
theorem Cl.uniq {m : Nat} {A B : List Arc} {T U : Nat → Nat → Option Int} (c : Cl m A T) (d : Cl m B U) (h : ∀ a, a ∈ A ↔ a ∈ B) {x y : Nat} (hx : x < m) (hy : y < m) : T x y = U x y := by
  cases e : T x y with
  | none =>
    cases e2 : U x y with
    | none => rfl
    | some u =>
      obtain ⟨v, q, _⟩ := c.least x y u hx hy ((d.way x y u hx hy e2).mono fun a ha => (h a).mpr ha)
      rw [e] at q
      cases q
  | some v =>
    obtain ⟨u, e2, l⟩ := d.least x y v hx hy ((c.way x y v hx hy e).mono fun a ha => (h a).mp ha)
    obtain ⟨v', q, l2⟩ := c.least x y u hx hy ((d.way x y u hx hy e2).mono fun a ha => (h a).mpr ha)
    rw [e] at q
    cases q
    rw [e2]
    congr 1
    omega
def ArcsIn (m : Nat) (A : List Arc) : Prop := ∀ a ∈ A, a.1 < m ∧ a.2.1 < m
/-! one arc more -/
/-- U is T with the arc (b, e, w) more -/
structure More (m : Nat) (T U : Nat → Nat → Option Int) (b e : Nat) (w : Int) : Prop where
  old : ∀ x y u, x < m → y < m → T x y = some u → le (U x y) u
  new : ∀ x y p q, x < m → y < m → T x b = some p → T e y = some q → le (U x y) (p + w + q)
  form : ∀ x y u, x < m → y < m → U x y = some u → T x y = some u ∨ ∃ p q, T x b = some p ∧ T e y = some q ∧ u = p + w + q
theorem Cl.more {m : Nat} {A : List Arc} {T U : Nat → Nat → Option Int} {b e : Nat} {w : Int} (c : Cl m A T) (hA : ArcsIn m A) (hb : b < m) (he : e < m) (nb : ∀ v, T e b = some v → 0 ≤ v + w) (d : More m T U b e w) : Cl m ((b, e, w) :: A) U := by
  have sub : ∀ a ∈ A, a ∈ (b, e, w) :: A := fun a ha => List.mem_cons_of_mem _ ha
  have tri : ∀ x y z p q, x < m → y < m → z < m → T x y = some p → T y z = some q → le (T x z) (p + q) := fun x y z p q hx hy hz e1 e2 =>
    c.least x z _ hx hz ((c.way x y p hx hy e1).app (c.way y z q hy hz e2))
  have dg : ∀ x, x < m → U x x = some 0 := fun x hx => by
    obtain ⟨u, e1, l⟩ := d.old x x 0 hx hx (c.diag x hx)
    rw [e1]
    congr 1
    rcases d.form x x u hx hx e1 with h | ⟨p, q, h1, h2, rfl⟩
    · rw [c.diag x hx] at h
      cases h
      rfl
    · obtain ⟨v, h3, l3⟩ := tri e x b q p he hx hb h2 h1
      have := nb v h3
      omega
  refine ⟨fun x y u hx hy e1 => ?_, ?_, dg⟩
  · rcases d.form x y u hx hy e1 with h | ⟨p, q, h1, h2, rfl⟩
    · exact (c.way x y u hx hy h).mono sub
    · rw [Int.add_assoc]
      exact ((c.way x b p hx hb h1).mono sub).app (.cons List.mem_cons_self ((c.way e y q he hy h2).mono sub))
  · intro x y v hx hy wy
    induction wy with
    | nil x => rw [dg x hx]; exact ⟨0, rfl, Int.le_refl _⟩
    | @cons a b' y w' v' ha _ ih =>
      have hb' : b' < m := by
        rcases List.mem_cons.mp ha with h | h
        · cases h; exact he
        · exact (hA _ h).2
      obtain ⟨u, e1, l⟩ := ih hb' hy
      rcases List.mem_cons.mp ha with h | h
      · cases h
        rcases d.form e y u he hy e1 with h | ⟨p, q, h1, h2, rfl⟩
        · exact (d.new b y 0 u hb hy (c.diag b hb) h).mono (by omega)
        · have := nb p h1
          exact (d.new b y 0 q hb hy (c.diag b hb) h2).mono (by omega)
      · rcases d.form b' y u hb' hy e1 with h3 | ⟨p, q, h1, h2, rfl⟩
        · obtain ⟨t, e3, l3⟩ := c.least a y (w' + u) hx hy (.cons h (c.way b' y u hb' hy h3))
          exact (d.old a y t hx hy e3).mono (by omega)
        · obtain ⟨t, e3, l3⟩ := c.least a b (w' + p) hx hb (.cons h (c.way b' b p hb' hb h1))
          exact (d.new a y t q hx hy e3 h2).mono (by omega)
theorem Clash.mono {m : Nat} {A B : List Arc} (h : ∀ a ∈ A, a ∈ B) : Clash m A → Clash m B := fun ⟨x, v, hx, w, hv⟩ => ⟨x, v, hx, w.mono h, hv⟩
/-! Floyd's table -/
abbrev Tb := Nat → Nat → Option Int
/-- what holds always -/
structure Fw (m : Nat) (A : List Arc) (T : Tb) : Prop where
  way : ∀ x y u, x < m → y < m → T x y = some u → Way A x y u
  arc : ∀ a b w, (a, b, w) ∈ A → le (T a b) w
  diag : ∀ x, x < m → le (T x x) 0
def Nn (m : Nat) (T : Tb) : Prop := ∀ x u, x < m → T x x = some u → 0 ≤ u
/-- triangles over the marks below k -/
def Tri (m k : Nat) (T : Tb) : Prop := ∀ z, z < k → z < m → ∀ x y p q, x < m → y < m → T x z = some p → T z y = some q → le (T x y) (p + q)
/-- within the turn of `by`, rows below k and the beginning of row k below j are done -/
structure Mid (m : Nat) (T0 T : Tb) (z : Nat) (done : Nat → Nat → Prop) : Prop where
  mono : ∀ x y u, x < m → y < m → T0 x y = some u → le (T x y) u
  form : Nn m T0 → ∀ x y u, x < m → y < m → T x y = some u → T0 x y = some u ∨ ∃ p q, T0 x z = some p ∧ T0 z y = some q ∧ u = p + q
  got : Nn m T0 → ∀ x y p q, x < m → y < m → done x y → T0 x z = some p → T0 z y = some q → le (T x y) (p + q)
  col : Nn m T0 → ∀ x, x < m → T x z = T0 x z
  row : Nn m T0 → ∀ y, y < m → T z y = T0 z y
theorem Mid.start {m z : Nat} {T : Tb} : Mid m T T z fun _ _ => False :=
  ⟨fun _ _ u _ _ e => ⟨u, e, Int.le_refl _⟩, fun _ _ _ _ _ _ e => .inl e, fun _ _ _ _ _ _ _ h => h.elim, fun _ _ _ => rfl, fun _ _ _ => rfl⟩
theorem Mid.weak {m z : Nat} {T0 T : Tb} {P R : Nat → Nat → Prop} (h : Mid m T0 T z P) (k : ∀ x y, x < m → y < m → R x y → P x y) : Mid m T0 T z R :=
  ⟨h.mono, h.form, fun n x y p q hx hy d => h.got n x y p q hx hy (k x y hx hy d), h.col, h.row⟩
def upd (T : Tb) (i j : Nat) (v : Option Int) : Tb := fun x y => if x = i ∧ y = j then v else T x y
/-- the entry (i, j) is looked at -/
theorem Mid.step {m z i j : Nat} {A : List Arc} {T0 T : Tb} {P : Nat → Nat → Prop} {p q : Int} (h : Mid m T0 T z P) (f0 : Fw m A T0) (hz : z < m) (hi : i < m) (hj : j < m) (e1 : T i z = some p) (e2 : T z j = some q) (lt : ∀ u, T i j = some u → p + q < u) :
    Mid m T0 (upd T i j (some (p + q))) z fun x y => P x y ∨ (x = i ∧ y = j) := by
  have notz : Nn m T0 → i ≠ z ∧ j ≠ z := fun n => by
    obtain ⟨d, ed, ld⟩ := f0.diag z hz
    have dn := n z d hz ed
    refine ⟨fun e => ?_, fun e => ?_⟩
    · subst e
      have c := h.col n i hi
      have : T i i = some d := by rw [c]; exact ed
      rw [this] at e1
      cases e1
      have := lt q e2
      omega
    · subst e
      have c := h.row n j hj
      have : T j j = some d := by rw [c]; exact ed
      rw [this] at e2
      cases e2
      have := lt p e1
      omega
  refine ⟨fun x y u hx hy e => ?_, fun n x y u hx hy e => ?_, fun n x y p' q' hx hy d e3 e4 => ?_, fun n x hx => ?_, fun n y hy => ?_⟩
  · unfold upd
    split
    · rename_i hc
      obtain ⟨rfl, rfl⟩ := hc
      obtain ⟨v, ev, lv⟩ := h.mono x y u hx hy e
      have := lt v ev
      exact ⟨_, rfl, by omega⟩
    · exact h.mono x y u hx hy e
  · unfold upd at e
    split at e
    · rename_i hc
      obtain ⟨rfl, rfl⟩ := hc
      cases e
      exact .inr ⟨p, q, by rw [← h.col n x hi]; exact e1, by rw [← h.row n y hj]; exact e2, rfl⟩
    · exact h.form n x y u hx hy e
  · unfold upd
    split
    · rename_i hc
      obtain ⟨rfl, rfl⟩ := hc
      rw [h.col n x hi] at e1
      rw [h.row n y hj] at e2
      rw [e3] at e1
      rw [e4] at e2
      cases e1
      cases e2
      exact ⟨_, rfl, Int.le_refl _⟩
    · rename_i hc
      rcases d with d | d
      · exact h.got n x y p' q' hx hy d e3 e4
      · exact absurd d hc
  · unfold upd
    rw [if_neg fun c => (notz n).2 c.2.symm]
    exact h.col n x hx
  · unfold upd
    rw [if_neg fun c => (notz n).1 c.1.symm]
    exact h.row n y hy
theorem Mid.keep {m z i j : Nat} {T0 T : Tb} {P : Nat → Nat → Prop} {p q u : Int} (h : Mid m T0 T z P) (hi : i < m) (hj : j < m) (e1 : T i z = some p) (e2 : T z j = some q) (e3 : T i j = some u) (le' : u ≤ p + q) :
    Mid m T0 T z fun x y => P x y ∨ (x = i ∧ y = j) :=
  ⟨h.mono, h.form, fun n x y p' q' hx hy d e4 e5 => by
    rcases d with d | ⟨rfl, rfl⟩
    · exact h.got n x y p' q' hx hy d e4 e5
    · rw [h.col n x hi, e4] at e1
      rw [h.row n y hj, e5] at e2
      cases e1
      cases e2
      exact ⟨u, e3, le'⟩, h.col, h.row⟩
/-- nothing is to be looked at: there is no way over z -/
theorem Mid.skip {m z i j : Nat} {T0 T : Tb} {P : Nat → Nat → Prop} (h : Mid m T0 T z P) (hi : i < m) (hj : j < m) (e : T i z = none ∨ T z j = none) : Mid m T0 T z fun x y => P x y ∨ (x = i ∧ y = j) := by
  refine ⟨h.mono, h.form, fun n x y p' q' hx hy d e4 e5 => ?_, h.col, h.row⟩
  rcases d with d | ⟨rfl, rfl⟩
  · exact h.got n x y p' q' hx hy d e4 e5
  · rw [h.col n x hi, h.row n y hj, e4, e5] at e
    rcases e with e | e <;> cases e
theorem Mid.nn {m z : Nat} {A : List Arc} {T0 T : Tb} {P : Nat → Nat → Prop} (h : Mid m T0 T z P) (n : Nn m T) : Nn m T0 := fun x u hx e => by
  obtain ⟨v, ev, lv⟩ := h.mono x x u hx hx e
  have := n x v hx ev
  omega
theorem Mid.tri {m z : Nat} {A : List Arc} {T0 T : Tb} (h : Mid m T0 T z fun _ _ => True) (f0 : Fw m A T0) (hz : z < m) (c : Nn m T0 → Tri m z T0) : Nn m T → Tri m (z + 1) T := fun nT => by
  have n := h.nn (A := A) nT
  have c := c n
  obtain ⟨d, ed, ld⟩ := f0.diag z hz
  have dn := n z d hz ed
  intro k hk hkm x y p q hx hy e1 e2
  have old : ∀ v, le (T0 x y) v → le (T x y) v := fun v ⟨u, eu, lu⟩ => (h.mono x y u hx hy eu).mono lu
  by_cases hkz : k = z
  · subst hkz
    rw [h.col n x hx] at e1
    rw [h.row n y hy] at e2
    exact h.got n x y p q hx hy trivial e1 e2
  · have hk' : k < z := by omega
    rcases h.form n x k p hx hkm e1 with h1 | ⟨p1, p2, h1, h2, rfl⟩
    · rcases h.form n k y q hkm hy e2 with g1 | ⟨q1, q2, g1, g2, rfl⟩
      · exact old _ (c k hk' hkm x y p q hx hy h1 g1)
      · obtain ⟨t, et, lt⟩ := c k hk' hkm x z p q1 hx hz h1 g1
        exact (h.got n x y t q2 hx hy trivial et g2).mono (by omega)
    · rcases h.form n k y q hkm hy e2 with g1 | ⟨q1, q2, g1, g2, rfl⟩
      · obtain ⟨t, et, lt⟩ := c k hk' hkm z y p2 q hz hy h2 g1
        exact (h.got n x y p1 t hx hy trivial h1 et).mono (by omega)
      · obtain ⟨t, et, lt⟩ := c k hk' hkm z z p2 q1 hz hz h2 g1
        rw [ed] at et
        cases et
        exact (h.got n x y p1 q2 hx hy trivial h1 g2).mono (by omega)
theorem Fw.upd {m i j : Nat} {A : List Arc} {T : Tb} {p q : Int} {z : Nat} (f : Fw m A T) (hi : i < m) (hj : j < m) (hz : z < m) (e1 : T i z = some p) (e2 : T z j = some q) (lt : ∀ u, T i j = some u → p + q < u) : Fw m A (Clo.upd T i j (some (p + q))) := by
  have dec : ∀ x y v, le (T x y) v → le (Clo.upd T i j (some (p + q)) x y) v := fun x y v ⟨u, eu, lu⟩ => by
    unfold Clo.upd
    split
    · rename_i hc
      obtain ⟨rfl, rfl⟩ := hc
      have := lt u eu
      exact ⟨_, rfl, by omega⟩
    · exact ⟨u, eu, lu⟩
  refine ⟨fun x y u hx hy e => ?_, fun a b w h => dec _ _ _ (f.arc a b w h), fun x hx => dec _ _ _ (f.diag x hx)⟩
  unfold Clo.upd at e
  split at e
  · rename_i hc
    obtain ⟨rfl, rfl⟩ := hc
    cases e
    exact (f.way x z p hi hz e1).app (f.way z y q hz hj e2)
  · exact f.way x y u hx hy e
theorem Fw.cl {m : Nat} {A : List Arc} {T : Tb} (f : Fw m A T) (hA : ArcsIn m A) (n : Nn m T) (c : Tri m m T) : Cl m A T := by
  refine ⟨f.way, fun x y v hx hy w => ?_, fun x hx => ?_⟩
  · induction w with
    | nil x => exact f.diag x hx
    | @cons a b y w v h _ ih =>
      obtain ⟨u, e, l⟩ := f.arc a b w h
      have hb := (hA _ h).2
      obtain ⟨t, e2, l2⟩ := ih hb hy
      exact (c b hb hb a y u t hx hy e e2).mono (by omega)
  · obtain ⟨u, e, l⟩ := f.diag x hx
    have := n x u hx e
    rw [e]
    congr 1
    omega
theorem Fw.clash {m : Nat} {A : List Arc} {T : Tb} (f : Fw m A T) {x : Nat} {u : Int} (hx : x < m) (e : T x x = some u) (hu : u < 0) : Clash m A := ⟨x, u, hx, f.way x x u hx hx e, hu⟩
theorem Fw.start {m : Nat} {T : Tb} (h : ∀ x y, x < m → y < m → T x y = if x = y then some 0 else none) : Fw m [] T := by
  refine ⟨fun x y u hx hy e => ?_, fun a b w h => absurd h List.not_mem_nil, fun x hx => ⟨0, by rw [h x x hx hx, if_pos rfl], Int.le_refl _⟩⟩
  rw [h x y hx hy] at e
  split at e
  · rename_i q
    subst q
    cases e
    exact .nil x
  · cases e
theorem Fw.arcStep {m a b : Nat} {w : Int} {A : List Arc} {T : Tb} (f : Fw m A T) (lt : ∀ u, T a b = some u → w < u) : Fw m (A ++ [(a, b, w)]) (Clo.upd T a b (some w)) := by
  have sub : ∀ z ∈ A, z ∈ A ++ [(a, b, w)] := fun z hz => List.mem_append.mpr (.inl hz)
  have dec : ∀ x y v, le (T x y) v → le (Clo.upd T a b (some w) x y) v := fun x y v ⟨u, eu, lu⟩ => by
    unfold Clo.upd
    split
    · rename_i hc
      obtain ⟨rfl, rfl⟩ := hc
      have := lt u eu
      exact ⟨_, rfl, by omega⟩
    · exact ⟨u, eu, lu⟩
  refine ⟨fun x y u hx hy e => ?_, fun a' b' w' h => ?_, fun x hx => dec _ _ _ (f.diag x hx)⟩
  · unfold Clo.upd at e
    split at e
    · rename_i hc
      obtain ⟨rfl, rfl⟩ := hc
      cases e
      exact .one (List.mem_append.mpr (.inr List.mem_cons_self))
    · exact (f.way x y u hx hy e).mono sub
  · rcases List.mem_append.mp h with h | h
    · exact dec _ _ _ (f.arc a' b' w' h)
    · cases List.mem_singleton.mp h
      unfold Clo.upd
      rw [if_pos ⟨rfl, rfl⟩]
      exact ⟨w, rfl, Int.le_refl _⟩
theorem Fw.arcKeep {m a b : Nat} {w u : Int} {A : List Arc} {T : Tb} (f : Fw m A T) (e : T a b = some u) (l : u ≤ w) : Fw m (A ++ [(a, b, w)]) T := by
  refine ⟨fun x y u hx hy e => (f.way x y u hx hy e).mono fun z hz => List.mem_append.mpr (.inl hz), fun a' b' w' h => ?_, f.diag⟩
  rcases List.mem_append.mp h with h | h
  · exact f.arc a' b' w' h
  · cases List.mem_singleton.mp h
    exact ⟨u, e, l⟩
theorem Mid.skipRow {m z i : Nat} {T0 T : Tb} {P : Nat → Nat → Prop} (h : Mid m T0 T z P) (hi : i < m) (e : T i z = none) : Mid m T0 T z fun x y => P x y ∨ x = i := by
  refine ⟨h.mono, h.form, fun n x y p' q' hx hy d e4 e5 => ?_, h.col, h.row⟩
  rcases d with d | rfl
  · exact h.got n x y p' q' hx hy d e4 e5
  · rw [h.col n x hi, e4] at e
    cases e
theorem upd_some {T : Tb} {i j x y : Nat} {v : Int} (h : (T x y).isSome = true) : (upd T i j (some v) x y).isSome = true := by
  unfold upd
  split
  · rfl
  · exact h
end Clo
/-! Pe: tables of bounds, as lists of lists in cells. -/
namespace Pe.Pw
open PySem
def oi : Option Int → D
  | none => .non
  | some i => .int i
abbrev Row := List (Option Int)
abbrev Mx := List Row
abbrev rowL (r : Row) : List PV := (r.map oi).map .d
def rowC (r : Row) : Cell := .lst (rowL r)
def rowV (r : Row) : PV := .tl (rowL r)
def mxV (M : Mx) : PV := .tl (M.map rowV)
def gt (M : Mx) (x y : Nat) : Option Int := ((M[x]?).bind fun r => r[y]?).join
structure Sq (m : Nat) (M : Mx) : Prop where
  len : M.length = m
  row : ∀ r ∈ M, r.length = m
structure MxAt (h : Hs) (n : Nat) (M : Mx) (ns : List Nat) : Prop where
  cell : h[n]? = some (.lst (ns.map .ref))
  len : ns.length = M.length
  rows : ∀ (i k : Nat) (r : Row), ns[i]? = some k → M[i]? = some r → h[k]? = some (rowC r)
structure Own (fb n : Nat) (ns : List Nat) : Prop where
  le : fb ≤ n
  les : ∀ k ∈ ns, fb ≤ k
  nd : (n :: ns).Nodup
section
variable {h : Hs} {Q : PV → Hs → Prop} {n d : Nat} {M : Mx} {ns : List Nat}
theorem Sq.get {m : Nat} (s : Sq m M) {x : Nat} (hx : x < m) : ∃ r, M[x]? = some r ∧ r.length = m := by
  have hx' : x < M.length := by rw [s.len]; exact hx
  exact ⟨_, List.getElem?_eq_getElem hx', s.row _ (List.getElem_mem hx')⟩
theorem gt_row {x y : Nat} {r : Row} (e : M[x]? = some r) : gt M x y = (r[y]?).join := by
  unfold gt
  rw [e]
  rfl
theorem at_row {r : Row} {y : Nat} (hy : y < r.length) : L2.atI (rowL r) (y : Int) = some (.d (oi (r[y]?).join)) := by
  rw [atI_map, atI_map, atI_nat, List.getElem?_eq_getElem hy]
  rfl
theorem MxAt.get (a : MxAt h n M ns) {x : Nat} {r : Row} (e : M[x]? = some r) : ∃ k, ns[x]? = some k ∧ L2.atI (ns.map PV.ref) (x : Int) = some (.ref k) ∧ h[k]? = some (.lst (rowL r)) := by
  have hx : x < ns.length := by rw [a.len]; exact (List.getElem?_eq_some_iff.mp e).1
  have e1 := List.getElem?_eq_getElem hx
  refine ⟨ns[x], e1, ?_, a.rows x _ r e1 e⟩
  rw [atI_map, atI_nat, e1]
  rfl
theorem MxAt.app {es : Hs} (a : MxAt h n M ns) : MxAt (h ++ es) n M ns :=
  ⟨by rw [List.getElem?_append_left (List.getElem?_eq_some_iff.mp a.cell).1]; exact a.cell, a.len, fun i k r e1 e2 => by
    have := a.rows i k r e1 e2
    rw [List.getElem?_append_left (List.getElem?_eq_some_iff.mp this).1]
    exact this⟩
theorem MxAt.keep {h' : Hs} (a : MxAt h n M ns) (k : ∀ i c, h[i]? = some c → (i = n ∨ i ∈ ns) → h'[i]? = some c) : MxAt h' n M ns :=
  ⟨k _ _ a.cell (.inl rfl), a.len, fun i j r e1 e2 => k _ _ (a.rows i j r e1 e2) (.inr (List.mem_of_getElem? e1))⟩
/-- a row is changed -/
theorem MxAt.set (a : MxAt h n M ns) (nd : (n :: ns).Nodup) {x k : Nat} {r : Row} (e : ns[x]? = some k) : MxAt (h.set k (.lst (rowL r))) n (M.set x r) ns := by
  obtain ⟨n1, n2⟩ := List.nodup_cons.mp nd
  have hk := List.mem_of_getElem? e
  have hx : x < M.length := by rw [← a.len]; exact (List.getElem?_eq_some_iff.mp e).1
  refine ⟨?_, by rw [List.length_set]; exact a.len, fun i j r' e1 e2 => ?_⟩
  · rw [List.getElem?_set_ne (fun q => n1 (by rw [← q]; exact hk))]
    exact a.cell
  · have ex : M[x]? = some M[x] := List.getElem?_eq_getElem hx
    have hlt := (List.getElem?_eq_some_iff.mp (a.rows x k _ e ex)).1
    by_cases hi : i = x
    · subst hi
      rw [e] at e1
      cases e1
      rw [List.getElem?_set_self hx] at e2
      cases e2
      exact List.getElem?_set_self hlt
    · rw [List.getElem?_set_ne (Ne.symm hi)] at e2
      have hne : k ≠ j := fun q => by
        subst q
        have h1 := List.getElem?_eq_some_iff.mp e
        have h2 := List.getElem?_eq_some_iff.mp e1
        exact hi ((List.getElem_inj n2).mp (h2.2.trans h1.2.symm))
      rw [List.getElem?_set_ne hne]
      exact a.rows i j r' e1 e2
theorem conv_row {r : Row} : conv (rowV r) h = (.ref h.length, h ++ [rowC r]) := conv_tld
theorem convs_rows : ∀ (M : Mx) (h : Hs), convs (M.map rowV) h = ((List.range' h.length M.length).map .ref, h ++ M.map rowC)
  | [], h => by
    rw [List.map_nil, List.map_nil, List.append_nil]
    rfl
  | r :: M, h => by
    rw [List.map_cons, convs_cons, conv_row]
    dsimp only
    rw [convs_rows M (h ++ [rowC r])]
    rw [List.length_append, List.length_cons, List.length_cons, List.length_nil, List.range'_succ, List.map_cons, List.map_cons, List.append_assoc]
    rfl
theorem conv_mx : conv (mxV M) h = (.ref (h.length + M.length), h ++ M.map rowC ++ [.lst ((List.range' h.length M.length).map .ref)]) := by
  show ((.ref (convs (M.map rowV) h).2.length : PV), (convs (M.map rowV) h).2 ++ [Cell.lst (convs (M.map rowV) h).1]) = _
  rw [convs_rows]
  dsimp only
  rw [List.length_append, List.length_map]
theorem mx_new : MxAt (h ++ M.map rowC ++ [.lst ((List.range' h.length M.length).map .ref)]) (h.length + M.length) M (List.range' h.length M.length) := by
  refine ⟨?_, List.length_range', fun i k r e1 e2 => ?_⟩
  · have : h.length + M.length = (h ++ M.map rowC).length := by rw [List.length_append, List.length_map]
    rw [this]
    exact List.getElem?_concat_length ..
  · have hi := (List.getElem?_eq_some_iff.mp e2).1
    rw [List.getElem?_range' hi] at e1
    cases e1
    rw [List.append_assoc, List.getElem?_append_right (by omega), List.getElem?_append_left (by rw [List.length_map]; omega), List.getElem?_map]
    rw [show h.length + 1 * i - h.length = i by omega, e2]
    rfl
theorem own_new {k : Nat} : Own h.length (h.length + k) (List.range' h.length k) := by
  refine ⟨by omega, fun j hj => ?_, ?_⟩
  · rw [List.mem_range'_1] at hj
    omega
  · rw [List.nodup_cons]
    refine ⟨fun hj => ?_, List.nodup_range'⟩
    rw [List.mem_range'_1] at hj
    omega
theorem Own.mono {fb fb' : Nat} (o : Own fb n ns) (h : fb' ≤ fb) : Own fb' n ns := ⟨Nat.le_trans h o.le, fun k hk => Nat.le_trans h (o.les k hk), o.nd⟩
theorem mapRefs_rows {fb : Nat} {h : Hs} {k : Nat} : ∀ (ns : List Nat) (M : Mx), ns.length = M.length → (∀ j ∈ ns, fb ≤ j) → (∀ (i j : Nat) (r : Row), ns[i]? = some j → M[i]? = some r → h[j]? = some (rowC r)) → mapRefs (resR fb h (k + 1)) (ns.map .ref) = some (M.map rowV, ns)
  | [], [], _, _, _ => rfl
  | [], _ :: _, e, _, _ => by cases e
  | _ :: _, [], e, _, _ => by cases e
  | j :: ns, r :: M, e, hl, hr => by
    have ih := mapRefs_rows (fb := fb) (h := h) (k := k) ns M (by simpa using e) (fun j hj => hl j (List.mem_cons_of_mem _ hj)) fun i j' r' e1 e2 => hr (i + 1) j' r' (by simpa using e1) (by simpa using e2)
    have h0 := hr 0 j r rfl rfl
    have one : mapRef (resR fb h (k + 1)) (.ref j) = some (rowV r, [j]) := by
      show (if j < fb then some (PV.ref j, []) else match h[j]? with
        | some (.lst xs) => match mapRefs (resR fb h k) xs with
          | some (ys, l) => some (PV.tl ys, j :: l)
          | none => none
        | none => none) = _
      rw [if_neg (by have := hl j List.mem_cons_self; omega), h0]
      dsimp only [rowC]
      rw [mapRefs_ds]
      rfl
    show (match mapRef (resR fb h (k + 1)) (.ref j), mapRefs (resR fb h (k + 1)) (ns.map PV.ref) with
      | some (y, l), some (ys, l2) => some (y :: ys, l ++ l2)
      | _, _ => none) = _
    rw [one, ih]
    rfl
/-- a table leaves -/
theorem lv_mx {fb : Nat} (a : MxAt h n M ns) (o : Own fb n ns) : Lv fb Q (.rt (.ref n)) h ↔ Q (mxV M) (h.take fb) := by
  have e : leave fb (.ref n) h = some (mxV M, h.take fb) := by
    unfold leave
    have : mapRef (resR fb h 4) (.ref n) = some (mxV M, n :: ns) := by
      show (if n < fb then some (PV.ref n, []) else match h[n]? with
        | some (.lst xs) => match mapRefs (resR fb h 3) xs with
          | some (ys, l) => some (PV.tl ys, n :: l)
          | none => none
        | none => none) = _
      rw [if_neg (by have := o.le; omega), a.cell]
      dsimp only
      rw [mapRefs_rows ns M a.len o.les a.rows]
      rfl
    rw [this]
    dsimp only
    rw [if_pos o.nd]
  exact ⟨fun ⟨_, _, e2, q⟩ => by rw [e] at e2; cases e2; exact q, fun q => ⟨_, _, e, q⟩⟩
theorem w_isnR {R : Bool → Hs → Prop} : Wp (cmpV .isN (.ref n) (.d .non)) h R ↔ R false h := w_iff rfl
end
end Pe.Pw
/-! Pe: readings, their arcs, and how they are drawn. -/
namespace Pe.Pw
open PySem
/-- a reading -/
structure Rd where
  a : Nat
  b : Nat
  lo : Option Int
  hi : Option Int
def Rd.D (r : Rd) : D := .tup [.int r.a, .int r.b, oi r.lo, oi r.hi]
abbrev tI (xs : List Int) : D := .tup (xs.map .int)
def rsD (rs : List Rd) : D := .tup (rs.map Rd.D)
/-- an arc with its sign -/
structure Ar where
  a : Nat
  b : Nat
  w : Int
  s : D
def Ar.D (x : Ar) : D := .tup [.int x.a, .int x.b, .int x.w, x.s]
def arcsA (i : Nat) (r : Rd) : List Ar := (match r.lo with
  | none => []
  | some l => [⟨r.b, r.a, -l, .tup [.int i, .int (-1)]⟩]) ++ (match r.hi with
  | none => []
  | some l => [⟨r.a, r.b, l, .tup [.int i, .int 1]⟩])
def allA : Nat → List Rd → List Ar
  | _, [] => []
  | k, r :: rs => arcsA k r ++ allA (k + 1) rs
theorem allA_snoc (r : Rd) : ∀ (rs : List Rd) (k : Nat), allA k (rs ++ [r]) = allA k rs ++ arcsA (k + rs.length) r
  | [], k => by simp [allA]
  | x :: rs, k => by
    rw [List.cons_append]
    unfold allA
    rw [allA_snoc r rs (k + 1), List.length_cons, List.append_assoc, show k + 1 + rs.length = k + (rs.length + 1) by omega]
theorem arcsA_len (i : Nat) (r : Rd) : (arcsA i r).length ≤ 2 := by
  obtain ⟨a, b, lo, hi⟩ := r
  cases lo <;> cases hi <;> simp [arcsA]
theorem allA_len : ∀ (rs : List Rd) (k : Nat), (allA k rs).length ≤ 2 * rs.length
  | [], _ => by simp [allA]
  | r :: rs, k => by
    have := allA_len rs (k + 1)
    have := arcsA_len k r
    simp [allA]
    omega
/-- without the signs -/
def Ar.arc (x : Ar) : Clo.Arc := (x.a, x.b, x.w)
def arcsP (r : Rd) : List Clo.Arc := (match r.lo with
  | none => []
  | some l => [(r.b, r.a, -l)]) ++ (match r.hi with
  | none => []
  | some l => [(r.a, r.b, l)])
theorem arcsA_arc {i : Nat} {r : Rd} : (arcsA i r).map Ar.arc = arcsP r := by
  obtain ⟨a, b, lo, hi⟩ := r
  cases lo <;> cases hi <;> rfl
theorem allA_arc : ∀ (rs : List Rd) (k : Nat), (allA k rs).map Ar.arc = rs.flatMap arcsP
  | [], k => rfl
  | r :: rs, k => by
    unfold allA
    rw [List.map_append, arcsA_arc, allA_arc rs (k + 1), List.flatMap_cons]
theorem mem_arcsP {r : Rd} {x : Clo.Arc} (h : x ∈ arcsP r) : (x.1 = r.a ∧ x.2.1 = r.b) ∨ (x.1 = r.b ∧ x.2.1 = r.a) := by
  obtain ⟨a, b, lo, hi⟩ := r
  cases lo <;> cases hi <;> simp [arcsP] at h
  · exact .inl (by rw [h]; exact ⟨rfl, rfl⟩)
  · exact .inr (by rw [h]; exact ⟨rfl, rfl⟩)
  · rcases h with h | h
    · exact .inr (by rw [h]; exact ⟨rfl, rfl⟩)
    · exact .inl (by rw [h]; exact ⟨rfl, rfl⟩)
def RdsIn (m : Nat) (rs : List Rd) : Prop := ∀ r ∈ rs, r.a < m ∧ r.b < m
theorem arcs_in {m : Nat} {rs : List Rd} (h : RdsIn m rs) : Clo.ArcsIn m (rs.flatMap arcsP) := fun x hx => by
  obtain ⟨r, hr, hx⟩ := List.mem_flatMap.mp hx
  have := h r hr
  rcases mem_arcsP hx with ⟨e1, e2⟩ | ⟨e1, e2⟩ <;> rw [e1, e2]
  · exact this
  · exact ⟨this.2, this.1⟩
theorem arA_in {m : Nat} {rs : List Rd} {k : Nat} (h : RdsIn m rs) {x : Ar} (hx : x ∈ allA k rs) : x.a < m ∧ x.b < m := by
  have : x.arc ∈ rs.flatMap arcsP := by
    rw [← allA_arc rs k]
    exact List.mem_map.mpr ⟨x, hx, rfl⟩
  exact arcs_in h _ this
theorem perm_map {α β : Type} {f : α → β} {ys zs : List β} (p : ys.Perm zs) : ∀ {xs : List α}, zs = xs.map f → ∃ us : List α, us.Perm xs ∧ ys = us.map f := by
  induction p with
  | nil => intro xs e; cases xs with
    | nil => exact ⟨[], .nil, rfl⟩
    | cons => cases e
  | cons x _ ih => intro xs e; cases xs with
    | nil => cases e
    | cons y xs =>
      rw [List.map_cons, List.cons.injEq] at e
      obtain ⟨us, p, rfl⟩ := ih e.2
      exact ⟨y :: us, p.cons _, by rw [List.map_cons, e.1]⟩
  | swap x y l => intro xs e; match xs, e with
    | a :: b :: xs, e =>
      simp only [List.map_cons, List.cons.injEq] at e
      obtain ⟨rfl, rfl, rfl⟩ := e
      exact ⟨b :: a :: xs, .swap _ _ _, rfl⟩
  | trans _ _ ih1 ih2 => intro xs e; obtain ⟨us, p2, e2⟩ := ih2 e; obtain ⟨vs, p1, e1⟩ := ih1 e2; exact ⟨vs, p1.trans p2, e1⟩
section
variable {FT : List Fn} {h : Hs} {Q : PV → Hs → Prop} {n d f : Nat}
theorem at_int {ps : List Int} {k : Nat} (hk : k < ps.length) : L2.atI (ps.map D.int) (k : Int) = some (.int (ps.getD k 0)) := by
  rw [atI_map, atI_nat, List.getElem?_eq_getElem hk, List.getD_eq_getElem?_getD, List.getElem?_eq_getElem hk]
  rfl
theorem at_rd {rs : List Rd} {i : Nat} {r : Rd} (e : rs[i]? = some r) : L2.atI (rs.map Rd.D) (i : Int) = some r.D := by
  rw [atI_map, atI_nat, e]
  rfl
theorem w_slL {xs : List PV} {lo hi : Option Int} : Wp (sliceV (.tl xs) lo hi) h Q ↔ Q (.tl (cutL xs lo hi)) h := w_iff rfl
theorem w_sumR {c : Nat} {bs : List Int} (e : h[c]? = some (.lst ((bs.map D.int).map .d))) : Wp (bltV .sum [.ref c]) h Q ↔ Q (.d (.int bs.sum)) h := by
  have a : Wp (bltV .sum [.ref c]) h Q ↔ Wp (bltV .sum [.tl ((bs.map D.int).map .d)]) h Q := by
    have : bltV .sum [.ref c] h = bltV .sum [.tl ((bs.map D.int).map .d)] h := by
      show (match (match h[c]? with
        | some (.lst xs) => some xs
        | none => none) with
        | some xs => (intsOf xs).map fun (bs : List Int) => (PV.d (.int bs.sum), h)
        | none => none) = _
      rw [e]
      rfl
    exact w_same this
  rw [a, List.map_map]
  exact w_sum
def rarcsB : List S := [.asg (.tup [(.nm 3), (.nm 4), (.nm 5), (.nm 6)]) (.var 1), .asg (.nm 2) (.lst []), .ife (.cmp .notN (.var 5) (.cst .non)) [.ex (.mth .append (.var 2) [(.tup [(.var 4), (.var 3), (.un .neg (.var 5)), (.tup [(.var 0), (.un .neg (.cst (.int 1)))])])])] [], .ife (.cmp .notN (.var 6) (.cst .non)) [.ex (.mth .append (.var 2) [(.tup [(.var 3), (.var 4), (.var 6), (.tup [(.var 0), (.cst (.int 1))])])])] [], .ret (.var 2)]
def arcsOfB (ra : Nat) : List S := [.asg (.nm 1) (.lst []), .fr (.tup [(.nm 2), (.nm 3)]) (.enum (.var 0)) [.ex (.mth .extend (.var 1) [(.call ra [(.var 2), (.var 3)])])], .ret (.var 1)]
def larcsB : List S := [.asg (.nm 1) (.lst []), .fr (.nm 2) (.rng1 (.blt .len [(.var 0)])) [.asg (.tup [(.nm 3), (.nm 4), (.nm 5), (.nm 6)]) (.idx (.var 0) (.var 2)), .ife (.cmp .notN (.var 5) (.cst .non)) [.ex (.mth .append (.var 1) [(.tup [(.var 4), (.var 3), (.un .neg (.var 5)), (.tup [(.var 2), (.un .neg (.cst (.int 1)))])])])] [], .ife (.cmp .notN (.var 6) (.cst .non)) [.ex (.mth .append (.var 1) [(.tup [(.var 3), (.var 4), (.var 6), (.tup [(.var 2), (.cst (.int 1))])])])] []], .ret (.var 1)]
theorem larcs_e (is : Is FT f 1 7 larcsB) {rs : List Rd} (hl : rs.length ≤ 1000) : cal FT (d + 1) f [.d (rsD rs)] h = some (.tl (((allA 0 rs).map Ar.D).map .d), h) := by
  refine eq_of_wp (is.call rfl ?_)
  unfold larcsB rsD
  simp only [Pe.Pw.ws, List.set_cons_zero, List.set_cons_succ, List.length_cons, List.length_nil, List.map_cons, List.map_nil, List.cons_append, List.nil_append, List.replicate_succ, List.replicate_zero, Nat.reduceSub, Nat.reduceAdd, Nat.reduceLT, true_and, and_true, if_true, Bool.false_eq_true, if_false, true_implies, false_implies, forall_const, decide_eq_true_eq, decide_eq_false_iff_not, Bool.not_eq_true', Bool.not_eq_false', reduceCtorEq, List.length_map]
  refine ⟨sz, by omega, ?_⟩
  rw [show (((rs.length : Int) - 0).toNat) = rs.length by omega]
  refine w_forN (fun i e h1 => ∃ e2 e3 e4 e5 e6, e = [some (.d (.tup (rs.map Rd.D))), some (.ref h.length), e2, e3, e4, e5, e6] ∧ h1 = h ++ [.lst (((allA 0 (rs.take i)).map Ar.D).map .d)]) ⟨none, none, none, none, none, rfl, rfl⟩ (fun i e h1 hi p => ?_) fun e h1 p => ?_
  · obtain ⟨e2, e3, e4, e5, e6, rfl, rfl⟩ := p
    have q : rs[i]? = some rs[i] := List.getElem?_eq_getElem hi
    have qa : L2.atI (rs.map Rd.D) (0 + (i : Int)) = some rs[i].D := by
      rw [Int.zero_add]
      exact at_rd q
    have l1 := allA_len (rs.take i) 0
    rw [List.length_take] at l1
    simp only [Pe.Pw.ws, List.set_cons_zero, List.set_cons_succ, List.length_cons, List.length_nil, List.map_cons, List.map_nil, List.cons_append, List.nil_append, List.replicate_succ, List.replicate_zero, Nat.reduceSub, Nat.reduceAdd, Nat.reduceLT, true_and, and_true, if_true, Bool.false_eq_true, if_false, true_implies, false_implies, forall_const, decide_eq_true_eq, decide_eq_false_iff_not, Bool.not_eq_true', Bool.not_eq_false', reduceCtorEq, w_ixT qa]
    rw [List.take_add_one, q, Option.toList_some, allA_snoc, List.length_take, Nat.zero_add, Nat.min_eq_left (by omega), List.map_append, List.map_append]
    generalize rs[i] = r
    obtain ⟨a, b, lo, hi'⟩ := r
    unfold Rd.D
    have hz : sizeLine = 2 ^ 24 := rfl
    cases lo <;> cases hi' <;> simp only [Pe.Pw.ws, List.set_cons_zero, List.set_cons_succ, List.length_cons, List.length_nil, List.map_cons, List.map_nil, List.cons_append, List.nil_append, List.replicate_succ, List.replicate_zero, Nat.reduceSub, Nat.reduceAdd, Nat.reduceLT, true_and, and_true, if_true, Bool.false_eq_true, if_false, true_implies, false_implies, forall_const, decide_eq_true_eq, decide_eq_false_iff_not, Bool.not_eq_true', Bool.not_eq_false', reduceCtorEq, oi, isNon, Bool.not_true, Bool.not_false, mkTup_2, mkTup_4, w_app0, List.length_map, List.length_append]
    · exact ⟨_, _, _, _, _, rfl, by simp [arcsA]⟩
    · exact ⟨sz, sz, by omega, _, _, _, _, _, rfl, by simp [arcsA, Ar.D]⟩
    · exact ⟨sz, sz, by omega, _, _, _, _, _, rfl, by simp [arcsA, Ar.D]⟩
    · exact ⟨sz, sz, by omega, sz, sz, by omega, _, _, _, _, _, rfl, by simp [arcsA, Ar.D]⟩
  · obtain ⟨e2, e3, e4, e5, e6, rfl, rfl⟩ := p
    simp only [Pe.Pw.ws, List.set_cons_zero, List.set_cons_succ, List.length_cons, List.length_nil, List.map_cons, List.map_nil, List.cons_append, List.nil_append, List.replicate_succ, List.replicate_zero, Nat.reduceSub, Nat.reduceAdd, Nat.reduceLT, true_and, and_true, if_true, Bool.false_eq_true, if_false, true_implies, false_implies, forall_const, decide_eq_true_eq, decide_eq_false_iff_not, Bool.not_eq_true', Bool.not_eq_false', reduceCtorEq]
    rw [lv_own0 (allD_ds _)]
    simp
/-! drawing -/
def scaleB (tk pk : Nat) : List S := [.ife (.cmp .eq (.call tk [(.var 0), (.cst (.int 8))]) (.cst (.int 0))) [.ret (.call pk [(.var 0), (.lst [(.cst (.int 1000003)), (.bin .add (.bin .pow (.cst (.int 10)) (.cst (.int 15))) (.cst (.int 37))), (.bin .add (.bin .pow (.cst (.int 10)) (.cst (.int 40))) (.cst (.int 121)))])])] [], .ret (.cst (.int 1))]
theorem scale_w {tk pk : Nat} (is : Is FT f 1 1 (scaleB tk pk)) (it : Is FT tk 2 2 takeB) (ip : Is FT pk 2 2 (pickB tk)) (a : Dr n h) (q : ∀ (s : Int) h1, Dn n h h1 → Q (.d (.int s)) h1) : Wp (cal FT (d + 3) f [.ref n]) h Q := by
  refine is.call rfl ?_
  unfold scaleB
  simp only [Pe.Pw.ws, List.set_cons_zero, List.set_cons_succ, List.length_cons, List.length_nil, List.map_cons, List.map_nil, List.cons_append, List.nil_append, List.replicate_succ, List.replicate_zero, Nat.reduceSub, Nat.reduceAdd, Nat.reduceLT, true_and, and_true, if_true, Bool.false_eq_true, if_false, true_implies, false_implies, forall_const, decide_eq_true_eq, decide_eq_false_iff_not, Bool.not_eq_true', Bool.not_eq_false', reduceCtorEq]
  refine take_w it (by decide) a fun r h1 r0 r1 b => ?_
  simp only [Pe.Pw.ws, List.set_cons_zero, List.set_cons_succ, List.length_cons, List.length_nil, List.map_cons, List.map_nil, List.cons_append, List.nil_append, List.replicate_succ, List.replicate_zero, Nat.reduceSub, Nat.reduceAdd, Nat.reduceLT, true_and, and_true, if_true, Bool.false_eq_true, if_false, true_implies, false_implies, forall_const, decide_eq_true_eq, decide_eq_false_iff_not, Bool.not_eq_true', Bool.not_eq_false', reduceCtorEq]
  refine ⟨fun _ => ?_, fun _ => ?_⟩
  · refine ⟨by decide, by decide, sz, ?_⟩
    refine pick_w2 ip it rfl (by decide) (b.dr a) fun x h2 hx b2 => ?_
    rw [lv_d, (b.trans b2).take0]
    simp only [List.mem_cons, List.not_mem_nil, or_false] at hx
    rcases hx with rfl | rfl | rfl <;> exact q _ _ (b.trans b2)
  · rw [b.take0]
    exact q _ _ b
def spotsB (tk : Nat) : List S := [.ret (.blt .tuple [(.bin .add (.lst [(.cst (.int 0))]) (.comp [3] (.nm 3) (.rng1 (.bin .sub (.var 1) (.cst (.int 1)))) false (.cst (.bl true)) (.bin .mul (.var 2) (.bin .sub (.call tk [(.var 0), (.cst (.int 19))]) (.cst (.int 9))))))])]
theorem spots_w {tk m : Nat} {s : Int} (is : Is FT f 3 4 (spotsB tk)) (it : Is FT tk 2 2 takeB) (h0 : 0 < m) (hm : m ≤ 100) (a : Dr n h) (q : ∀ (ps : List Int) h1, ps.length = m → ps.getD 0 0 = 0 → Dn n h h1 → Q (.d (tI ps)) h1) : Wp (cal FT (d + 3) f [.ref n, .d (.int m), .d (.int s)]) h Q := by
  refine is.call rfl ?_
  unfold spotsB
  have hz : sizeLine = 2 ^ 24 := rfl
  simp only [Pe.Pw.ws, List.set_cons_zero, List.set_cons_succ, List.length_cons, List.length_nil, List.map_cons, List.map_nil, List.cons_append, List.nil_append, List.replicate_succ, List.replicate_zero, Nat.reduceSub, Nat.reduceAdd, Nat.reduceLT, true_and, and_true, if_true, Bool.false_eq_true, if_false, true_implies, false_implies, forall_const, decide_eq_true_eq, decide_eq_false_iff_not, Bool.not_eq_true', Bool.not_eq_false', reduceCtorEq]
  refine ⟨sz, by omega, ?_⟩
  refine w_clN (fun i acc h1 => ∃ ps : List Int, ps.length = i ∧ acc = (ps.map D.int).map PV.d ∧ Dn n h h1) ⟨[], rfl, rfl, .refl a⟩ (fun i acc h1 hi p => ?_) fun acc h1 p => ?_
  · obtain ⟨ps, hp, rfl, b⟩ := p
    simp only [Pe.Pw.ws, List.set_cons_zero, List.set_cons_succ, List.length_cons, List.length_nil, List.map_cons, List.map_nil, List.cons_append, List.nil_append, List.replicate_succ, List.replicate_zero, Nat.reduceSub, Nat.reduceAdd, Nat.reduceLT, true_and, and_true, if_true, Bool.false_eq_true, if_false, true_implies, false_implies, forall_const, decide_eq_true_eq, decide_eq_false_iff_not, Bool.not_eq_true', Bool.not_eq_false', reduceCtorEq]
    refine take_w it (by decide) (b.dr a) fun r h2 r0 r1 b2 => ?_
    simp only [Pe.Pw.ws, List.set_cons_zero, List.set_cons_succ, List.length_cons, List.length_nil, List.map_cons, List.map_nil, List.cons_append, List.nil_append, List.replicate_succ, List.replicate_zero, Nat.reduceSub, Nat.reduceAdd, Nat.reduceLT, true_and, and_true, if_true, Bool.false_eq_true, if_false, true_implies, false_implies, forall_const, decide_eq_true_eq, decide_eq_false_iff_not, Bool.not_eq_true', Bool.not_eq_false', reduceCtorEq]
    refine ⟨mulOk_r (by omega), ⟨ps ++ [s * (r - 9)], by simp [hp], by simp, b.trans b2⟩, ?_⟩
    simp only [List.length_map]
    omega
  · obtain ⟨ps, hp, rfl, b⟩ := p
    simp only [List.length_map]
    refine ⟨by omega, ?_⟩
    rw [show PV.d (.int 0) :: (ps.map D.int).map PV.d = ((0 :: ps).map D.int).map PV.d from rfl, mkTup_ds, lv_d, b.take0]
    exact q (0 :: ps) h1 (by simp; omega) rfl b
def twoB (tk : Nat) : List S := [.asg (.nm 2) (.call tk [(.var 0), (.var 1)]), .ret (.tup [(.var 2), (.bin .mod (.blt .int [(.bin .add (.bin .add (.var 2) (.cst (.int 1))) (.call tk [(.var 0), (.bin .sub (.var 1) (.cst (.int 1)))]))]) (.var 1))])]
theorem two_w {tk m : Nat} (is : Is FT f 2 3 (twoB tk)) (it : Is FT tk 2 2 takeB) (h0 : 2 ≤ m) (a : Dr n h) (q : ∀ (i j : Nat) h1, i < m → j < m → Dn n h h1 → Q (.d (.tup [.int i, .int j])) h1) : Wp (cal FT (d + 3) f [.ref n, .d (.int m)]) h Q := by
  refine is.call rfl ?_
  unfold twoB
  simp only [Pe.Pw.ws, List.set_cons_zero, List.set_cons_succ, List.length_cons, List.length_nil, List.map_cons, List.map_nil, List.cons_append, List.nil_append, List.replicate_succ, List.replicate_zero, Nat.reduceSub, Nat.reduceAdd, Nat.reduceLT, true_and, and_true, if_true, Bool.false_eq_true, if_false, true_implies, false_implies, forall_const, decide_eq_true_eq, decide_eq_false_iff_not, Bool.not_eq_true', Bool.not_eq_false', reduceCtorEq]
  refine take_w it (by omega) a fun r h1 r0 r1 b => ?_
  simp only [Pe.Pw.ws, List.set_cons_zero, List.set_cons_succ, List.length_cons, List.length_nil, List.map_cons, List.map_nil, List.cons_append, List.nil_append, List.replicate_succ, List.replicate_zero, Nat.reduceSub, Nat.reduceAdd, Nat.reduceLT, true_and, and_true, if_true, Bool.false_eq_true, if_false, true_implies, false_implies, forall_const, decide_eq_true_eq, decide_eq_false_iff_not, Bool.not_eq_true', Bool.not_eq_false', reduceCtorEq]
  refine take_w it (by omega) (b.dr a) fun r2 h2 r20 r21 b2 => ?_
  simp only [Pe.Pw.ws, List.set_cons_zero, List.set_cons_succ, List.length_cons, List.length_nil, List.map_cons, List.map_nil, List.cons_append, List.nil_append, List.replicate_succ, List.replicate_zero, Nat.reduceSub, Nat.reduceAdd, Nat.reduceLT, true_and, and_true, if_true, Bool.false_eq_true, if_false, true_implies, false_implies, forall_const, decide_eq_true_eq, decide_eq_false_iff_not, Bool.not_eq_true', Bool.not_eq_false', reduceCtorEq, mkTup_2]
  have f0 := Int.fmod_nonneg_of_pos (r + 1 + r2) (show (0 : Int) < m by omega)
  have f1 := Int.fmod_lt_of_pos (r + 1 + r2) (show (0 : Int) < m by omega)
  obtain ⟨i, rfl⟩ := Int.eq_ofNat_of_zero_le r0
  obtain ⟨j, hj⟩ := Int.eq_ofNat_of_zero_le f0
  rw [hj] at f1 ⊢
  refine ⟨by omega, sz, ?_⟩
  rw [(b.trans b2).take0]
  exact q i j h2 (by omega) (by omega) (b.trans b2)
def keptB (tw pk tk : Nat) : List S := [.asg (.tup [(.nm 7), (.nm 8)]) (.call tw [(.var 0), (.blt .len [(.var 1)])]), .asg (.nm 3) (.bin .sub (.idx (.var 1) (.var 8)) (.idx (.var 1) (.var 7))), .asg (.nm 4) (.bin .sub (.var 3) (.bin .mul (.var 2) (.call pk [(.var 0), (.lst [(.cst (.int 0)), (.cst (.int 0)), (.cst (.int 1)), (.cst (.int 3))])]))), .asg (.nm 5) (.bin .add (.var 3) (.bin .mul (.var 2) (.call pk [(.var 0), (.lst [(.cst (.int 0)), (.cst (.int 0)), (.cst (.int 1)), (.cst (.int 4))])]))), .asg (.nm 6) (.call tk [(.var 0), (.cst (.int 12))]), .ife (.orr (.cmp .lt (.var 6) (.cst (.int 3))) (.cmp .eq (.var 6) (.cst (.int 11)))) [.asg (.nm 4) (.cst .non)] [], .ife (.cmp .gt (.var 6) (.cst (.int 8))) [.asg (.nm 5) (.cst .non)] [], .ret (.tup [(.var 7), (.var 8), (.var 4), (.var 5)])]
theorem kept_w {tw pk tk : Nat} {ps : List Int} {s : Int} (is : Is FT f 3 9 (keptB tw pk tk)) (iw : Is FT tw 2 3 (twoB tk)) (ip : Is FT pk 2 2 (pickB tk)) (it : Is FT tk 2 2 takeB) (h0 : 2 ≤ ps.length) (a : Dr n h) (q : ∀ (r : Rd) h1, r.a < ps.length → r.b < ps.length → Dn n h h1 → Q (.d r.D) h1) : Wp (cal FT (d + 4) f [.ref n, .d (tI ps), .d (.int s)]) h Q := by
  refine is.call rfl ?_
  unfold keptB
  simp only [Pe.Pw.ws, List.set_cons_zero, List.set_cons_succ, List.length_cons, List.length_nil, List.map_cons, List.map_nil, List.cons_append, List.nil_append, List.replicate_succ, List.replicate_zero, Nat.reduceSub, Nat.reduceAdd, Nat.reduceLT, true_and, and_true, if_true, Bool.false_eq_true, if_false, true_implies, false_implies, forall_const, decide_eq_true_eq, decide_eq_false_iff_not, Bool.not_eq_true', Bool.not_eq_false', reduceCtorEq, List.length_map]
  refine two_w iw it h0 a fun i j h1 hi hj b => ?_
  simp only [Pe.Pw.ws, List.set_cons_zero, List.set_cons_succ, List.length_cons, List.length_nil, List.map_cons, List.map_nil, List.cons_append, List.nil_append, List.replicate_succ, List.replicate_zero, Nat.reduceSub, Nat.reduceAdd, Nat.reduceLT, true_and, and_true, if_true, Bool.false_eq_true, if_false, true_implies, false_implies, forall_const, decide_eq_true_eq, decide_eq_false_iff_not, Bool.not_eq_true', Bool.not_eq_false', reduceCtorEq, w_ixT (at_int hi), w_ixT (at_int hj)]
  refine ⟨sz, pickI_w ip it [0, 0, 1, 3] rfl (by decide) (b.dr a) fun x h2 hx b2 => ?_⟩
  have b2 := b.trans b2
  have hx' : x.natAbs < 2 ^ 64 := by simp at hx; omega
  simp only [Pe.Pw.ws, List.set_cons_zero, List.set_cons_succ, List.length_cons, List.length_nil, List.map_cons, List.map_nil, List.cons_append, List.nil_append, List.replicate_succ, List.replicate_zero, Nat.reduceSub, Nat.reduceAdd, Nat.reduceLT, true_and, and_true, if_true, Bool.false_eq_true, if_false, true_implies, false_implies, forall_const, decide_eq_true_eq, decide_eq_false_iff_not, Bool.not_eq_true', Bool.not_eq_false', reduceCtorEq]
  refine ⟨mulOk_r hx', sz, pickI_w ip it [0, 0, 1, 4] rfl (by decide) (b2.dr a) fun y h3 hy b3 => ?_⟩
  have b3 := b2.trans b3
  have hy' : y.natAbs < 2 ^ 64 := by simp at hy; omega
  simp only [Pe.Pw.ws, List.set_cons_zero, List.set_cons_succ, List.length_cons, List.length_nil, List.map_cons, List.map_nil, List.cons_append, List.nil_append, List.replicate_succ, List.replicate_zero, Nat.reduceSub, Nat.reduceAdd, Nat.reduceLT, true_and, and_true, if_true, Bool.false_eq_true, if_false, true_implies, false_implies, forall_const, decide_eq_true_eq, decide_eq_false_iff_not, Bool.not_eq_true', Bool.not_eq_false', reduceCtorEq]
  refine ⟨mulOk_r hy', ?_⟩
  refine take_w it (by decide) (b3.dr a) fun k h4 k0 k1 b4 => ?_
  have b4 := b3.trans b4
  simp only [Pe.Pw.ws, List.set_cons_zero, List.set_cons_succ, List.length_cons, List.length_nil, List.map_cons, List.map_nil, List.cons_append, List.nil_append, List.replicate_succ, List.replicate_zero, Nat.reduceSub, Nat.reduceAdd, Nat.reduceLT, true_and, and_true, if_true, Bool.false_eq_true, if_false, true_implies, false_implies, forall_const, decide_eq_true_eq, decide_eq_false_iff_not, Bool.not_eq_true', Bool.not_eq_false', reduceCtorEq, mkTup_4, b4.take0]
  repeat' (first | refine And.intro ?_ ?_ | intro _)
  all_goals first
    | exact sz
    | exact q ⟨i, j, none, none⟩ _ hi hj b4
    | exact q ⟨i, j, some _, none⟩ _ hi hj b4
    | exact q ⟨i, j, none, some _⟩ _ hi hj b4
    | exact q ⟨i, j, some _, some _⟩ _ hi hj b4
def keptAllB (kp tk : Nat) : List S := [.asg (.nm 4) (.lst []), .ife (.cmp .lt (.blt .len [(.var 1)]) (.cst (.int 2))) [.ret (.var 4)] [], .fr (.nm 5) (.rng1 (.var 2)) [.ex (.mth .append (.var 4) [(.call kp [(.var 0), (.var 1), (.var 3)])]), .ife (.cmp .eq (.call tk [(.var 0), (.cst (.int 8))]) (.cst (.int 0))) [.sub (.var 4) (.var 5) (.idx (.var 4) (.call tk [(.var 0), (.bin .add (.var 5) (.cst (.int 1)))]))] []], .ret (.var 4)]
theorem keptAll_w {kp tw pk tk : Nat} {ps : List Int} {s : Int} {many : Nat} (is : Is FT f 4 6 (keptAllB kp tk)) (ik : Is FT kp 3 9 (keptB tw pk tk)) (iw : Is FT tw 2 3 (twoB tk)) (ip : Is FT pk 2 2 (pickB tk)) (it : Is FT tk 2 2 takeB) (hp : ps.length ≤ 100) (hm : many ≤ 100) (a : Dr n h) (q : ∀ (rs : List Rd) h1, rs.length ≤ many → (∀ r ∈ rs, r.a < ps.length ∧ r.b < ps.length) → Dn n h h1 → Q (.tl ((rs.map Rd.D).map .d)) h1) :
    Wp (cal FT (d + 5) f [.ref n, .d (tI ps), .d (.int many), .d (.int s)]) h Q := by
  refine is.call rfl ?_
  unfold keptAllB
  have hn := a.lt
  have hz : sizeLine = 2 ^ 24 := rfl
  simp only [Pe.Pw.ws, List.set_cons_zero, List.set_cons_succ, List.length_cons, List.length_nil, List.map_cons, List.map_nil, List.cons_append, List.nil_append, List.replicate_succ, List.replicate_zero, Nat.reduceSub, Nat.reduceAdd, Nat.reduceLT, true_and, and_true, if_true, Bool.false_eq_true, if_false, true_implies, false_implies, forall_const, decide_eq_true_eq, decide_eq_false_iff_not, Bool.not_eq_true', Bool.not_eq_false', reduceCtorEq, List.length_map]
  refine ⟨sz, fun _ => ?_, fun h2 => ⟨by omega, ?_⟩⟩
  · rw [lv_own0 rfl]
    exact q [] h (by simp) (fun r hr => absurd hr List.not_mem_nil) (.refl a)
  have h2 : 2 ≤ ps.length := by omega
  rw [show ((many : Int) - 0).toNat = many by omega]
  refine w_forN (fun i e hh => ∃ rs h' e5, rs.length = i ∧ (∀ r ∈ rs, r.a < ps.length ∧ r.b < ps.length) ∧ Dn n h h' ∧ e = [some (.ref n), some (.d (tI ps)), some (.d (.int many)), some (.d (.int s)), some (.ref h.length), e5] ∧ hh = h' ++ [.lst ((rs.map Rd.D).map .d)])
    ⟨[], h, none, rfl, fun r hr => absurd hr List.not_mem_nil, .refl a, rfl, rfl⟩ (fun i e hh hi p => ?_) fun e hh p => ?_
  · obtain ⟨rs, h', e5, rfl, hrs, b, rfl, rfl⟩ := p
    have hl := b.len
    rw [← hl]
    simp only [Pe.Pw.ws, List.set_cons_zero, List.set_cons_succ, List.length_cons, List.length_nil, List.map_cons, List.map_nil, List.cons_append, List.nil_append, List.replicate_succ, List.replicate_zero, Nat.reduceSub, Nat.reduceAdd, Nat.reduceLT, true_and, and_true, if_true, Bool.false_eq_true, if_false, true_implies, false_implies, forall_const, decide_eq_true_eq, decide_eq_false_iff_not, Bool.not_eq_true', Bool.not_eq_false', reduceCtorEq]
    refine kept_w ik iw ip it h2 (b.dr a).app fun r h1 ra rb b1 => ?_
    obtain ⟨g1, rfl, c1⟩ := b1.split (by rw [hl]; exact hn)
    have d1 := b.trans c1
    rw [show h'.length = g1.length by rw [hl, d1.len]]
    simp only [Pe.Pw.ws, List.set_cons_zero, List.set_cons_succ, List.length_cons, List.length_nil, List.map_cons, List.map_nil, List.cons_append, List.nil_append, List.replicate_succ, List.replicate_zero, Nat.reduceSub, Nat.reduceAdd, Nat.reduceLT, true_and, and_true, if_true, Bool.false_eq_true, if_false, true_implies, false_implies, forall_const, decide_eq_true_eq, decide_eq_false_iff_not, Bool.not_eq_true', Bool.not_eq_false', reduceCtorEq, w_app0, List.length_map]
    refine ⟨by omega, take_w it (by decide) (d1.dr a).app fun k h3 _ _ b3 => ?_⟩
    obtain ⟨g3, rfl, c3⟩ := b3.split (by rw [d1.len]; exact hn)
    have d3 := d1.trans c3
    rw [show g1.length = g3.length by rw [d1.len, d3.len]]
    simp only [Pe.Pw.ws, List.set_cons_zero, List.set_cons_succ, List.length_cons, List.length_nil, List.map_cons, List.map_nil, List.cons_append, List.nil_append, List.replicate_succ, List.replicate_zero, Nat.reduceSub, Nat.reduceAdd, Nat.reduceLT, true_and, and_true, if_true, Bool.false_eq_true, if_false, true_implies, false_implies, forall_const, decide_eq_true_eq, decide_eq_false_iff_not, Bool.not_eq_true', Bool.not_eq_false', reduceCtorEq]
    refine ⟨fun _ => ?_, fun _ => ?_⟩
    · refine take_w it (by omega) (d3.dr a).app fun k h5 k0 k1 b5 => ?_
      obtain ⟨g5, rfl, c5⟩ := b5.split (by rw [d3.len]; exact hn)
      have d5 := d3.trans c5
      rw [show g3.length = g5.length by rw [d3.len, d5.len]]
      obtain ⟨j, rfl⟩ := Int.eq_ofNat_of_zero_le k0
      have hj : j < (rs ++ [r]).length := by simp; omega
      have ea : L2.atI ((rs.map Rd.D).map PV.d ++ [PV.d r.D]) (j : Int) = some (.d ((rs ++ [r])[j]).D) := by
        have : (rs.map Rd.D).map PV.d ++ [PV.d r.D] = ((rs ++ [r]).map Rd.D).map PV.d := by simp
        rw [this, atI_map, atI_map, atI_nat, List.getElem?_eq_getElem hj]
        rfl
      have ei : L2.ixN ((rs.map Rd.D).map PV.d ++ [PV.d r.D]).length (0 + (rs.length : Int)) = some rs.length := by
        unfold L2.ixN
        rw [if_pos (by omega), if_pos (by simp; omega), Int.zero_add, Int.toNat_natCast]
      simp only [Pe.Pw.ws, List.set_cons_zero, List.set_cons_succ, List.length_cons, List.length_nil, List.map_cons, List.map_nil, List.cons_append, List.nil_append, List.replicate_succ, List.replicate_zero, Nat.reduceSub, Nat.reduceAdd, Nat.reduceLT, true_and, and_true, if_true, Bool.false_eq_true, if_false, true_implies, false_implies, forall_const, decide_eq_true_eq, decide_eq_false_iff_not, Bool.not_eq_true', Bool.not_eq_false', reduceCtorEq, w_ixR gA0 ea, w_set gA0 ei, sA0]
      refine ⟨rs ++ [(rs ++ [r])[j]], g5, some (.d (.int (0 + (rs.length : Int)))), by simp, fun x hx => ?_, d5, ?_, ?_⟩
      · rcases List.mem_append.mp hx with hx | hx
        · exact hrs x hx
        · rw [List.mem_singleton.mp hx]
          have := List.getElem_mem hj
          rcases List.mem_append.mp this with h6 | h6
          · exact hrs _ h6
          · rw [List.mem_singleton.mp h6]; exact ⟨ra, rb⟩
      · rw [d5.len]
      · congr 2
        simp
    · refine ⟨rs ++ [r], g3, some (.d (.int (0 + (rs.length : Int)))), by simp, fun x hx => ?_, d3, ?_, ?_⟩
      · rcases List.mem_append.mp hx with hx | hx
        · exact hrs x hx
        · rw [List.mem_singleton.mp hx]; exact ⟨ra, rb⟩
      · rw [d3.len]
      · simp
  · obtain ⟨rs, h', e5, hr, hrs, b, rfl, rfl⟩ := p
    have hl := b.len
    rw [← hl]
    simp only [Pe.Pw.ws, List.set_cons_zero, List.set_cons_succ, List.length_cons, List.length_nil, List.map_cons, List.map_nil, List.cons_append, List.nil_append, List.replicate_succ, List.replicate_zero, Nat.reduceSub, Nat.reduceAdd, Nat.reduceLT, true_and, and_true, if_true, Bool.false_eq_true, if_false, true_implies, false_implies, forall_const, decide_eq_true_eq, decide_eq_false_iff_not, Bool.not_eq_true', Bool.not_eq_false', reduceCtorEq]
    rw [lv_own0 (allD_ds _)]
    exact q rs h' (by omega) hrs b
end
end Pe.Pw
/-! Pe: readings with a ring below 0, drawn. -/
namespace Pe.Pw
open PySem
section
variable {FT : List Fn} {h : Hs} {Q : PV → Hs → Prop} {n d f : Nat}
theorem Dn.get {h' : Hs} (b : Dn n h h') {c : Nat} (hc : c ≠ n) : h'[c]? = h[c]? := by
  obtain ⟨ds, rfl⟩ := b
  rw [List.getElem?_set_ne (Ne.symm hc)]
theorem at_nat' {us : List Nat} {k : Nat} (hk : k < us.length) : L2.atI ((us.map fun u => D.int (u : Nat)).map PV.d) (k : Int) = some (.d (.int ((us[k] : Nat) : Int))) := by
  rw [atI_map, atI_map, atI_nat, List.getElem?_eq_getElem hk]
  rfl
theorem at_intC {ws : List Int} {k : Nat} (hk : k < ws.length) : L2.atI ((ws.map D.int).map PV.d) (k : Int) = some (.d (.int (ws.getD k 0))) := by
  rw [atI_map, at_int hk]
  rfl
def ringB (tk : Nat) : List S := [.asg (.nm 5) (.comp [12] (.nm 12) (.seq (.var 1)) false (.cst (.bl true)) (.bin .mul (.var 3) (.bin .sub (.call tk [(.var 0), (.cst (.int 15))]) (.cst (.int 7))))), .sub (.var 5) (.cst (.int 0)) (.bin .sub (.bin .add (.idx (.var 5) (.cst (.int 0))) (.var 2)) (.blt .sum [(.var 5)])), .asg (.nm 6) (.lst []), .fr (.nm 7) (.rng1 (.blt .len [(.var 1)])) [.asg (.nm 8) (.idx (.var 1) (.var 7)), .asg (.nm 9) (.idx (.var 1) (.bin .mod (.blt .int [(.bin .add (.var 7) (.cst (.int 1)))]) (.blt .len [(.var 1)]))), .asg (.nm 10) (.bin .mul (.var 3) (.bin .add (.cst (.int 1)) (.call tk [(.var 0), (.cst (.int 9))]))), .asg (.nm 11) (.orr (.cmp .eq (.var 4) (.cst (.int 1))) (.cmp .eq (.call tk [(.var 0), (.cst (.int 2))]) (.cst (.int 0)))), .ife (.cmp .eq (.call tk [(.var 0), (.cst (.int 2))]) (.cst (.int 0))) [.ex (.mth .append (.var 6) [(.tup [(.var 8), (.var 9), (.idx (.lst [(.bin .sub (.idx (.var 5) (.var 7)) (.var 10)), (.cst .non)]) (.blt .int [(.var 11)])), (.idx (.var 5) (.var 7))])])] [.ex (.mth .append (.var 6) [(.tup [(.var 9), (.var 8), (.un .neg (.idx (.var 5) (.var 7))), (.idx (.lst [(.bin .sub (.var 10) (.idx (.var 5) (.var 7))), (.cst .non)]) (.blt .int [(.var 11)]))])])]], .ret (.var 6)]
theorem ring_w {tk c m : Nat} {us : List Nat} {total s lone : Int} (is : Is FT f 5 13 (ringB tk)) (it : Is FT tk 2 2 takeB) (hc : h[c]? = some (.lst ((us.map fun u => D.int (u : Nat)).map .d))) (nc : c ≠ n) (h0 : 0 < us.length) (hl : us.length ≤ 100) (hu : ∀ u ∈ us, u < m) (a : Dr n h)
    (q : ∀ (rs : List Rd) h1, rs.length = us.length → RdsIn m rs → Dn n h h1 → Q (.tl ((rs.map Rd.D).map .d)) h1) : Wp (cal FT (d + 3) f [.ref n, .ref c, .d (.int total), .d (.int s), .d (.int lone)]) h Q := by
  refine is.call rfl ?_
  unfold ringB
  have hz : sizeLine = 2 ^ 24 := rfl
  have hn := a.lt
  have hcl := (List.getElem?_eq_some_iff.mp hc).1
  refine w_cut (fun e hh => ∃ (ws : List Int) (h' : Hs), ws.length = us.length ∧ Dn n h h' ∧ e = [some (.ref n), some (.ref c), some (.d (.int total)), some (.d (.int s)), some (.d (.int lone)), some (.ref h.length), none, none, none, none, none, none, none] ∧ hh = h' ++ [.lst ((ws.map D.int).map .d)]) ?_ ?_
  · simp only [Pe.Pw.ws, List.set_cons_zero, List.set_cons_succ, List.length_cons, List.length_nil, List.map_cons, List.map_nil, List.cons_append, List.nil_append, List.replicate_succ, List.replicate_zero, Nat.reduceSub, Nat.reduceAdd, Nat.reduceLT, true_and, and_true, if_true, Bool.false_eq_true, if_false, true_implies, false_implies, forall_const, decide_eq_true_eq, decide_eq_false_iff_not, Bool.not_eq_true', Bool.not_eq_false', reduceCtorEq]
    refine w_cl ((us.map fun u => D.int (u : Nat)).map PV.d) (fun i acc hh => ∃ ws : List Int, ws.length = i ∧ acc = (ws.map D.int).map PV.d ∧ Dn n h hh) ⟨[], rfl, rfl, .refl a⟩ (fun i acc hh _ p => ?_) (fun i acc hh x ex p => ?_) fun acc hh p => ?_
    · obtain ⟨ws, _, _, b⟩ := p
      exact its_cell (by rw [b.get nc]; exact hc)
    · obtain ⟨ws, hw, rfl, b⟩ := p
      have hi := (List.getElem?_eq_some_iff.mp ex).1
      rw [List.length_map, List.length_map] at hi
      obtain ⟨y, hy, rfl⟩ := List.mem_map.mp (List.mem_of_getElem? ex)
      simp only [Pe.Pw.ws, List.set_cons_zero, List.set_cons_succ, List.length_cons, List.length_nil, List.map_cons, List.map_nil, List.cons_append, List.nil_append, List.replicate_succ, List.replicate_zero, Nat.reduceSub, Nat.reduceAdd, Nat.reduceLT, true_and, and_true, if_true, Bool.false_eq_true, if_false, true_implies, false_implies, forall_const, decide_eq_true_eq, decide_eq_false_iff_not, Bool.not_eq_true', Bool.not_eq_false', reduceCtorEq]
      refine take_w it (by decide) (b.dr a) fun r h2 r0 r1 b2 => ?_
      simp only [Pe.Pw.ws, List.set_cons_zero, List.set_cons_succ, List.length_cons, List.length_nil, List.map_cons, List.map_nil, List.cons_append, List.nil_append, List.replicate_succ, List.replicate_zero, Nat.reduceSub, Nat.reduceAdd, Nat.reduceLT, true_and, and_true, if_true, Bool.false_eq_true, if_false, true_implies, false_implies, forall_const, decide_eq_true_eq, decide_eq_false_iff_not, Bool.not_eq_true', Bool.not_eq_false', reduceCtorEq]
      refine ⟨mulOk_r (by omega), ⟨ws ++ [s * (r - 7)], by simp [hw], by simp, b.trans b2⟩, ?_⟩
      simp only [List.length_map]
      omega
    · obtain ⟨ws, hw, rfl, b⟩ := p
      rw [List.length_map, List.length_map] at hw
      simp only [Pe.Pw.ws, List.set_cons_zero, List.set_cons_succ, List.length_cons, List.length_nil, List.map_cons, List.map_nil, List.cons_append, List.nil_append, List.replicate_succ, List.replicate_zero, Nat.reduceSub, Nat.reduceAdd, Nat.reduceLT, true_and, and_true, if_true, Bool.false_eq_true, if_false, true_implies, false_implies, forall_const, decide_eq_true_eq, decide_eq_false_iff_not, Bool.not_eq_true', Bool.not_eq_false', reduceCtorEq, conv_tld]
      exact ⟨ws, hh, hw, b, by rw [b.len], rfl⟩
  rintro _ _ ⟨ws, h', hw, b, rfl, rfl⟩
  refine w_cut (fun e hh => ∃ (ws : List Int), ws.length = us.length ∧ e = [some (.ref n), some (.ref c), some (.d (.int total)), some (.d (.int s)), some (.d (.int lone)), some (.ref h.length), none, none, none, none, none, none, none] ∧ hh = h' ++ [.lst ((ws.map D.int).map .d)]) ?_ ?_
  · rw [← b.len]
    have e0 : L2.atI ((ws.map D.int).map PV.d) 0 = some (.d (.int (ws.getD 0 0))) := at_intC (k := 0) (by omega)
    have ei : L2.ixN ((ws.map D.int).map PV.d).length 0 = some 0 := by
      unfold L2.ixN
      rw [if_pos (by decide), if_pos (by simp; omega)]
      rfl
    simp only [Pe.Pw.ws, List.set_cons_zero, List.set_cons_succ, List.length_cons, List.length_nil, List.map_cons, List.map_nil, List.cons_append, List.nil_append, List.replicate_succ, List.replicate_zero, Nat.reduceSub, Nat.reduceAdd, Nat.reduceLT, true_and, and_true, if_true, Bool.false_eq_true, if_false, true_implies, false_implies, forall_const, decide_eq_true_eq, decide_eq_false_iff_not, Bool.not_eq_true', Bool.not_eq_false', reduceCtorEq, w_ixR gA0 e0, w_sumR gA0, w_set gA0 ei, sA0]
    exact ⟨ws.set 0 (ws.getD 0 0 + total - ws.sum), by rw [List.length_set]; exact hw, by rw [List.map_set, List.map_set]⟩
  clear hw ws
  rintro _ _ ⟨ws, hw, rfl, rfl⟩
  have cc : ∀ g es, Dn n h g → (g ++ es : Hs)[c]? = some (.lst ((us.map fun u => D.int (u : Nat)).map .d)) := fun g es b => by
    rw [List.getElem?_append_left (by rw [b.len]; exact hcl), b.get nc]
    exact hc
  refine w_cut (fun e hh => e = [some (.ref n), some (.ref c), some (.d (.int total)), some (.d (.int s)), some (.d (.int lone)), some (.ref h.length), some (.ref (h.length + 1)), none, none, none, none, none, none] ∧ hh = h' ++ [Cell.lst ((ws.map D.int).map .d), Cell.lst []]) ?_ ?_
  · simp only [Pe.Pw.ws, List.set_cons_zero, List.set_cons_succ, List.length_cons, List.length_nil, List.map_cons, List.map_nil, List.cons_append, List.nil_append, List.replicate_succ, List.replicate_zero, Nat.reduceSub, Nat.reduceAdd, Nat.reduceLT, true_and, and_true, if_true, Bool.false_eq_true, if_false, true_implies, false_implies, forall_const, decide_eq_true_eq, decide_eq_false_iff_not, Bool.not_eq_true', Bool.not_eq_false', reduceCtorEq]
    refine ⟨sz, by rw [List.length_append, b.len]; rfl, by rw [List.append_assoc]; rfl⟩
  rintro _ _ ⟨rfl, rfl⟩
  refine w_cut (fun e hh => ∃ (rs : List Rd) (g : Hs) (e7 e8 e9 e10 e11 e12 : Option PV), rs.length = us.length ∧ RdsIn m rs ∧ Dn n h g ∧ e = [some (.ref n), some (.ref c), some (.d (.int total)), some (.d (.int s)), some (.d (.int lone)), some (.ref h.length), some (.ref (h.length + 1)), e7, e8, e9, e10, e11, e12] ∧ hh = g ++ [Cell.lst ((ws.map D.int).map .d), Cell.lst ((rs.map Rd.D).map .d)]) ?_ ?_
  · simp only [Pe.Pw.ws, List.set_cons_zero, List.set_cons_succ, List.length_cons, List.length_nil, List.map_cons, List.map_nil, List.cons_append, List.nil_append, List.replicate_succ, List.replicate_zero, Nat.reduceSub, Nat.reduceAdd, Nat.reduceLT, true_and, and_true, if_true, Bool.false_eq_true, if_false, true_implies, false_implies, forall_const, decide_eq_true_eq, decide_eq_false_iff_not, Bool.not_eq_true', Bool.not_eq_false', reduceCtorEq, w_lenR (cc h' _ b), List.length_map]
    refine ⟨by omega, ?_⟩
    rw [show ((us.length : Int) - 0).toNat = us.length by omega]
    refine w_forN (fun i e hh => ∃ (rs : List Rd) (g : Hs) (e7 e8 e9 e10 e11 e12 : Option PV), rs.length = i ∧ RdsIn m rs ∧ Dn n h g ∧ e = [some (.ref n), some (.ref c), some (.d (.int total)), some (.d (.int s)), some (.d (.int lone)), some (.ref h.length), some (.ref (h.length + 1)), e7, e8, e9, e10, e11, e12] ∧ hh = g ++ [Cell.lst ((ws.map D.int).map .d), Cell.lst ((rs.map Rd.D).map .d)])
      ⟨[], h', _, _, _, _, _, _, rfl, fun r hr => absurd hr List.not_mem_nil, b, rfl, rfl⟩ (fun i e hh hi p => ?_) fun e hh p => p
    clear b h'
    obtain ⟨rs, g, e7, e8, e9, e10, e11, e12, rfl, hrs, b, rfl, rfl⟩ := p
    have hu1 := hu _ (List.getElem_mem hi)
    have f0 := Int.fmod_nonneg_of_pos ((0 : Int) + rs.length + 1) (show (0 : Int) < us.length by omega)
    have f1 := Int.fmod_lt_of_pos ((0 : Int) + rs.length + 1) (show (0 : Int) < us.length by omega)
    obtain ⟨j, hj⟩ := Int.eq_ofNat_of_zero_le f0
    rw [hj] at f1
    have hjl : j < us.length := by omega
    have hu2 := hu _ (List.getElem_mem hjl)
    have ai := at_nat' hi
    have aj := at_nat' hjl
    have z0 : (0 : Int) + (rs.length : Int) = ((rs.length : Nat) : Int) := Int.zero_add _
    refine w_nm.mpr ⟨(by decide : 7 < 13), ?_⟩
    rw [z0] at hj ⊢
    refine w_cut (fun e hh => e = [some (.ref n), some (.ref c), some (.d (.int total)), some (.d (.int s)), some (.d (.int lone)), some (.ref h.length), some (.ref (h.length + 1)), some (.d (.int (rs.length : Nat))), some (.d (.int (us[rs.length] : Nat))), e9, e10, e11, e12] ∧ hh = g ++ [Cell.lst ((ws.map D.int).map .d), Cell.lst ((rs.map Rd.D).map .d)]) ?_ ?_
    · simp only [Pe.Pw.ws, List.set_cons_zero, List.set_cons_succ, List.length_cons, List.length_nil, List.map_cons, List.map_nil, List.cons_append, List.nil_append, List.replicate_succ, List.replicate_zero, Nat.reduceSub, Nat.reduceAdd, Nat.reduceLT, true_and, and_true, if_true, Bool.false_eq_true, if_false, true_implies, false_implies, forall_const, decide_eq_true_eq, decide_eq_false_iff_not, Bool.not_eq_true', Bool.not_eq_false', reduceCtorEq, w_ixR (cc g _ b) ai]
    rintro _ _ ⟨rfl, rfl⟩
    refine w_cut (fun e hh => e = [some (.ref n), some (.ref c), some (.d (.int total)), some (.d (.int s)), some (.d (.int lone)), some (.ref h.length), some (.ref (h.length + 1)), some (.d (.int (rs.length : Nat))), some (.d (.int (us[rs.length] : Nat))), some (.d (.int (us[j] : Nat))), e10, e11, e12] ∧ hh = g ++ [Cell.lst ((ws.map D.int).map .d), Cell.lst ((rs.map Rd.D).map .d)]) ?_ ?_
    · simp only [Pe.Pw.ws, List.set_cons_zero, List.set_cons_succ, List.length_cons, List.length_nil, List.map_cons, List.map_nil, List.cons_append, List.nil_append, List.replicate_succ, List.replicate_zero, Nat.reduceSub, Nat.reduceAdd, Nat.reduceLT, true_and, and_true, if_true, Bool.false_eq_true, if_false, true_implies, false_implies, forall_const, decide_eq_true_eq, decide_eq_false_iff_not, Bool.not_eq_true', Bool.not_eq_false', reduceCtorEq, w_lenR (cc g _ b), List.length_map]
      refine ⟨by omega, ?_⟩
      rw [hj]
      simp only [Pe.Pw.ws, List.set_cons_zero, List.set_cons_succ, List.length_cons, List.length_nil, List.map_cons, List.map_nil, List.cons_append, List.nil_append, List.replicate_succ, List.replicate_zero, Nat.reduceSub, Nat.reduceAdd, Nat.reduceLT, true_and, and_true, if_true, Bool.false_eq_true, if_false, true_implies, false_implies, forall_const, decide_eq_true_eq, decide_eq_false_iff_not, Bool.not_eq_true', Bool.not_eq_false', reduceCtorEq, w_ixR (cc g _ b) aj]
    rintro _ _ ⟨rfl, rfl⟩
    refine w_cut (fun e hh => ∃ (mr : Int) (g : Hs), Dn n h g ∧ e = [some (.ref n), some (.ref c), some (.d (.int total)), some (.d (.int s)), some (.d (.int lone)), some (.ref h.length), some (.ref (h.length + 1)), some (.d (.int (rs.length : Nat))), some (.d (.int (us[rs.length] : Nat))), some (.d (.int (us[j] : Nat))), some (.d (.int mr)), e11, e12] ∧ hh = g ++ [Cell.lst ((ws.map D.int).map .d), Cell.lst ((rs.map Rd.D).map .d)]) ?_ ?_
    · simp only [Pe.Pw.ws, List.set_cons_zero, List.set_cons_succ, List.length_cons, List.length_nil, List.map_cons, List.map_nil, List.cons_append, List.nil_append, List.replicate_succ, List.replicate_zero, Nat.reduceSub, Nat.reduceAdd, Nat.reduceLT, true_and, and_true, if_true, Bool.false_eq_true, if_false, true_implies, false_implies, forall_const, decide_eq_true_eq, decide_eq_false_iff_not, Bool.not_eq_true', Bool.not_eq_false', reduceCtorEq]
      refine take_w it (by decide) (b.dr a).app fun r g1 r0 r1 b1 => ?_
      obtain ⟨h3, rfl, c1⟩ := b1.split (by have := b.len; omega)
      simp only [Pe.Pw.ws, List.set_cons_zero, List.set_cons_succ, List.length_cons, List.length_nil, List.map_cons, List.map_nil, List.cons_append, List.nil_append, List.replicate_succ, List.replicate_zero, Nat.reduceSub, Nat.reduceAdd, Nat.reduceLT, true_and, and_true, if_true, Bool.false_eq_true, if_false, true_implies, false_implies, forall_const, decide_eq_true_eq, decide_eq_false_iff_not, Bool.not_eq_true', Bool.not_eq_false', reduceCtorEq]
      exact ⟨mulOk_r (by omega), _, h3, b.trans c1, rfl, rfl⟩
    clear b g
    rintro _ _ ⟨mr, g, b, rfl, rfl⟩
    refine w_cut (fun e hh => ∃ (br : Bool) (g : Hs), Dn n h g ∧ e = [some (.ref n), some (.ref c), some (.d (.int total)), some (.d (.int s)), some (.d (.int lone)), some (.ref h.length), some (.ref (h.length + 1)), some (.d (.int (rs.length : Nat))), some (.d (.int (us[rs.length] : Nat))), some (.d (.int (us[j] : Nat))), some (.d (.int mr)), some (.d (.bl br)), e12] ∧ hh = g ++ [Cell.lst ((ws.map D.int).map .d), Cell.lst ((rs.map Rd.D).map .d)]) ?_ ?_
    · simp only [Pe.Pw.ws, List.set_cons_zero, List.set_cons_succ, List.length_cons, List.length_nil, List.map_cons, List.map_nil, List.cons_append, List.nil_append, List.replicate_succ, List.replicate_zero, Nat.reduceSub, Nat.reduceAdd, Nat.reduceLT, true_and, and_true, if_true, Bool.false_eq_true, if_false, true_implies, false_implies, forall_const, decide_eq_true_eq, decide_eq_false_iff_not, Bool.not_eq_true', Bool.not_eq_false', reduceCtorEq]
      refine ⟨fun _ => ⟨true, g, b, rfl, rfl⟩, fun _ => ?_⟩
      refine take_w it (by decide) (b.dr a).app fun r g1 r0 r1 b1 => ?_
      obtain ⟨h3, rfl, c1⟩ := b1.split (by have := b.len; omega)
      simp only [Pe.Pw.ws, List.set_cons_zero, List.set_cons_succ, List.length_cons, List.length_nil, List.map_cons, List.map_nil, List.cons_append, List.nil_append, List.replicate_succ, List.replicate_zero, Nat.reduceSub, Nat.reduceAdd, Nat.reduceLT, true_and, and_true, if_true, Bool.false_eq_true, if_false, true_implies, false_implies, forall_const, decide_eq_true_eq, decide_eq_false_iff_not, Bool.not_eq_true', Bool.not_eq_false', reduceCtorEq]
      exact ⟨_, h3, b.trans c1, rfl, rfl⟩
    clear b g
    rintro _ _ ⟨br, g, b, rfl, rfl⟩
    have aw : L2.atI ((ws.map D.int).map PV.d) ((rs.length : Nat) : Int) = some (.d (.int (ws.getD rs.length 0))) := at_intC (by omega)
    have x0 : ∀ x y : PV, L2.atI [x, y] 0 = some x := fun _ _ => rfl
    have x1 : ∀ x y : PV, L2.atI [x, y] 1 = some y := fun _ _ => rfl
    simp only [Pe.Pw.ws, List.set_cons_zero, List.set_cons_succ, List.length_cons, List.length_nil, List.map_cons, List.map_nil, List.cons_append, List.nil_append, List.replicate_succ, List.replicate_zero, Nat.reduceSub, Nat.reduceAdd, Nat.reduceLT, true_and, and_true, if_true, Bool.false_eq_true, if_false, true_implies, false_implies, forall_const, decide_eq_true_eq, decide_eq_false_iff_not, Bool.not_eq_true', Bool.not_eq_false', reduceCtorEq]
    refine take_w it (by decide) (b.dr a).app fun r g1 r0 r1 b1 => ?_
    obtain ⟨h3, rfl, c1⟩ := b1.split (by have := b.len; omega)
    have d3 := b.trans c1
    have gw : (h3 ++ [Cell.lst ((ws.map D.int).map .d), Cell.lst ((rs.map Rd.D).map .d)])[h.length]? = some (.lst ((ws.map D.int).map .d)) := by rw [← d3.len]; exact gA0
    have gr : (h3 ++ [Cell.lst ((ws.map D.int).map .d), Cell.lst ((rs.map Rd.D).map .d)])[h.length + 1]? = some (.lst ((rs.map Rd.D).map .d)) := by rw [← d3.len]; exact gA
    have fin : ∀ (r : Rd), (h3 ++ [Cell.lst ((ws.map D.int).map .d), Cell.lst ((rs.map Rd.D).map .d)]).set (h.length + 1) (.lst ((rs.map Rd.D).map .d ++ [.d (.tup [.int r.a, .int r.b, oi r.lo, oi r.hi])])) = h3 ++ [Cell.lst ((ws.map D.int).map .d), Cell.lst (((rs ++ [r]).map Rd.D).map .d)] := fun r => by
      rw [← d3.len, sA]
      simp [Rd.D]
    have inn : ∀ (r : Rd), r.a < m → r.b < m → RdsIn m (rs ++ [r]) := fun r ra rb x hx => by
      rcases List.mem_append.mp hx with hx | hx
      · exact hrs x hx
      · rw [List.mem_singleton.mp hx]; exact ⟨ra, rb⟩
    have hz2 : ((rs.map Rd.D).map PV.d).length < sizeLine := by rw [List.length_map, List.length_map]; omega
    simp only [Pe.Pw.ws, List.set_cons_zero, List.set_cons_succ, List.length_cons, List.length_nil, List.map_cons, List.map_nil, List.cons_append, List.nil_append, List.replicate_succ, List.replicate_zero, Nat.reduceSub, Nat.reduceAdd, Nat.reduceLT, true_and, and_true, if_true, Bool.false_eq_true, if_false, true_implies, false_implies, forall_const, decide_eq_true_eq, decide_eq_false_iff_not, Bool.not_eq_true', Bool.not_eq_false', reduceCtorEq, w_ixR gw aw]
    cases br with
    | true =>
      simp only [Pe.Pw.ws, List.set_cons_zero, List.set_cons_succ, List.length_cons, List.length_nil, List.map_cons, List.map_nil, List.cons_append, List.nil_append, List.replicate_succ, List.replicate_zero, Nat.reduceSub, Nat.reduceAdd, Nat.reduceLT, true_and, and_true, if_true, Bool.false_eq_true, if_false, true_implies, false_implies, forall_const, decide_eq_true_eq, decide_eq_false_iff_not, Bool.not_eq_true', Bool.not_eq_false', reduceCtorEq, w_ixL (x1 _ _), w_ixR gw aw, mkTup_4, w_app gr hz2]
      refine ⟨fun _ => ⟨sz, sz, ?_⟩, fun _ => ⟨sz, sz, ?_⟩⟩
      · exact ⟨rs ++ [(⟨us[rs.length], us[j], none, some (ws.getD rs.length 0)⟩ : Rd)], h3, _, _, _, _, _, _, by simp, inn _ hu1 hu2, d3, rfl, fin ⟨us[rs.length], us[j], none, some (ws.getD rs.length 0)⟩⟩
      · exact ⟨rs ++ [⟨us[j], us[rs.length], some (-(ws.getD rs.length 0)), none⟩], h3, _, _, _, _, _, _, by simp, inn _ hu2 hu1, d3, rfl, fin ⟨us[j], us[rs.length], some (-(ws.getD rs.length 0)), none⟩⟩
    | false =>
      simp only [Pe.Pw.ws, List.set_cons_zero, List.set_cons_succ, List.length_cons, List.length_nil, List.map_cons, List.map_nil, List.cons_append, List.nil_append, List.replicate_succ, List.replicate_zero, Nat.reduceSub, Nat.reduceAdd, Nat.reduceLT, true_and, and_true, if_true, Bool.false_eq_true, if_false, true_implies, false_implies, forall_const, decide_eq_true_eq, decide_eq_false_iff_not, Bool.not_eq_true', Bool.not_eq_false', reduceCtorEq, w_ixL (x0 _ _), w_ixR gw aw, mkTup_4, w_app gr hz2]
      refine ⟨fun _ => ⟨sz, sz, ?_⟩, fun _ => ⟨sz, sz, ?_⟩⟩
      · exact ⟨rs ++ [⟨us[rs.length], us[j], some (ws.getD rs.length 0 - mr), some (ws.getD rs.length 0)⟩], h3, _, _, _, _, _, _, by simp, inn _ hu1 hu2, d3, rfl, fin ⟨us[rs.length], us[j], some (ws.getD rs.length 0 - mr), some (ws.getD rs.length 0)⟩⟩
      · exact ⟨rs ++ [⟨us[j], us[rs.length], some (-(ws.getD rs.length 0)), some (mr - ws.getD rs.length 0)⟩], h3, _, _, _, _, _, _, by simp, inn _ hu2 hu1, d3, rfl, fin ⟨us[j], us[rs.length], some (-(ws.getD rs.length 0)), some (mr - ws.getD rs.length 0)⟩⟩
  rintro _ _ ⟨rs, g, e7, e8, e9, e10, e11, e12, hl, hrs, b, rfl, rfl⟩
  simp only [Pe.Pw.ws, List.set_cons_zero, List.set_cons_succ, List.length_cons, List.length_nil, List.map_cons, List.map_nil, List.cons_append, List.nil_append, List.replicate_succ, List.replicate_zero, Nat.reduceSub, Nat.reduceAdd, Nat.reduceLT, true_and, and_true, if_true, Bool.false_eq_true, if_false, true_implies, false_implies, forall_const, decide_eq_true_eq, decide_eq_false_iff_not, Bool.not_eq_true', Bool.not_eq_false', reduceCtorEq]
  have gr : (g ++ [Cell.lst ((ws.map D.int).map .d), Cell.lst ((rs.map Rd.D).map .d)])[h.length + 1]? = some (.lst ((rs.map Rd.D).map .d)) := by rw [← b.len]; exact gA
  rw [lv_own (by omega) gr, b.take]
  exact q rs g hl hrs b
end
end Pe.Pw
/-! Pe: the program's tables of bounds. -/
namespace Pe.Pw
open PySem
section
variable {FT : List Fn} {h : Hs} {Q : PV → Hs → Prop} {n d f : Nat}
/-- a comprehension over a range whose items are plain -/
theorem w_clg {f : PV → M (Option PV)} {lo : Int} {n : Nat} {C : List PV → Hs → Prop} (g : Nat → PV) (z : n ≤ sizeLine)
    (st : ∀ i, i < n → Wp (f (.d (.int (lo + (i : Nat))))) h fun o h1 => o = some (g i) ∧ h1 = h) (fin : C ((List.range n).map g) h) : Wp (cloop f (.rng lo n) ((ItV.rng lo n).fuel h) 0 []) h C :=
  w_clx (List.range n) (fun i : Nat => PV.d (.int (lo + (i : Int)))) g its_rng (by rw [List.length_range]; exact z) (fun i hi => st i (List.mem_range.mp hi)) fin
def freeB : List S := [.ret (.comp [1] (.nm 1) (.rng1 (.var 0)) false (.cst (.bl true)) (.comp [2] (.nm 2) (.rng1 (.var 0)) false (.cst (.bl true)) (.ifx (.cmp .eq (.var 1) (.var 2)) (.cst (.int 0)) (.cst .non))))]
def shorterB : List S := [.asg (.nm 3) (.blt .list [(.var 0)]), .fr (.tup [(.nm 4), (.nm 5)]) (.enum (.var 2)) [.ife (.an (.cmp .notN (.var 5) (.cst .non)) (.orr (.cmp .isN (.idx (.var 3) (.var 4)) (.cst .non)) (.cmp .lt (.bin .add (.var 1) (.var 5)) (.idx (.var 3) (.var 4))))) [.sub (.var 3) (.var 4) (.bin .add (.var 1) (.var 5))] []], .ret (.var 3)]
def sh1 (t : Option Int) (far : Int) (mo : Option Int) : Option Int := match mo with
  | none => t
  | some u => match t with
    | none => some (far + u)
    | some v => if far + u < v then some (far + u) else some v
theorem ixN_at {l i : Nat} (h : i < l) : L2.ixN l (i : Int) = some i := by
  unfold L2.ixN
  rw [if_pos (by omega), if_pos (by omega), Int.toNat_natCast]
theorem rowL_set {r : Row} {i : Nat} {o : Option Int} : (rowL r).set i (.d (oi o)) = rowL (r.set i o) := by
  unfold rowL
  rw [List.map_set, List.map_set]
theorem rowL_len {r : Row} : (rowL r).length = r.length := by rw [List.length_map, List.length_map]
end
end Pe.Pw
/-! Pe: the program's tables of bounds, widened by arcs. -/
namespace Pe.Pw
open PySem
section
variable {FT : List Fn} {h : Hs} {Q : PV → Hs → Prop} {n d f : Nat} {M : Mx} {ns : List Nat} {m : Nat}
def withB (sh : Nat) : List S := [.asg (.nm 4) (.idx (.idx (.var 0) (.var 2)) (.var 1)), .ife (.an (.cmp .notN (.var 4) (.cst .non)) (.cmp .lt (.bin .add (.var 4) (.var 3)) (.cst (.int 0)))) [.ret (.cst .non)] [], .asg (.nm 5) (.idx (.var 0) (.var 2)), .asg (.nm 6) (.lst []), .fr (.nm 7) (.seq (.var 0)) [.ife (.cmp .isN (.idx (.var 7) (.var 1)) (.cst .non)) [.ex (.mth .append (.var 6) [(.blt .list [(.var 7)])])] [.ex (.mth .append (.var 6) [(.call sh [(.var 7), (.bin .add (.idx (.var 7) (.var 1)) (.var 3)), (.var 5)])])]], .ret (.var 6)]
end
end Pe.Pw
/-! Pe: the program's tables of readings. -/
namespace Pe.Pw
open PySem
section
variable {FT : List Fn} {h : Hs} {Q : PV → Hs → Prop} {n d f : Nat} {M : Mx} {ns : List Nat} {m : Nat}
def arcsC (as : List Ar) : List PV := (as.map Ar.D).map .d
def ArsIn (m : Nat) (as : List Ar) : Prop := ∀ x ∈ as, x.a < m ∧ x.b < m
def alongBd (wi : Nat) : List S := [.asg (.nm 2) (.var 0), .fr (.tup [(.nm 3), (.nm 4), (.nm 5), (.nm 6)]) (.seq (.var 1)) [.asg (.nm 2) (.call wi [(.var 2), (.var 3), (.var 4), (.var 5)]), .ife (.cmp .isN (.var 2) (.cst .non)) [.ret (.cst .non)] []], .ret (.var 2)]
end
end Pe.Pw
/-! Pe: table_of, table_behind. -/
namespace Pe.Pw
open PySem
theorem sm_oi {k : Nat} {o : Option Int} : Sm k (oi o) := by cases o <;> cases k <;> exact True.intro
section
variable {FT : List Fn} {h : Hs} {Q : PV → Hs → Prop} {n d f : Nat} {M : Mx} {ns : List Nat} {m : Nat}
def uppersOfB (al fr ao : Nat) : List S := [.ret (.call al [(.call fr [(.var 0)]), (.call ao [(.var 1)])])]
end
end Pe.Pw
/-! Pe: the law's own tables. -/
namespace Pe.Pw
open PySem
section
variable {FT : List Fn} {h : Hs} {Q : PV → Hs → Prop} {n d f : Nat} {M : Mx} {ns : List Nat} {m : Nat}
theorem w_repN {k : Nat} (hk : k ≤ 1000) : Wp (binV .mul (.tl [.d .non]) (.d (.int (k : Nat)))) h Q ↔ Q (rowV (List.replicate k none)) h := by
  refine w_iff ?_
  show (if 0 ≤ (k : Int) ∧ (k : Int) ≤ 1000000 ∧ [PV.d .non].length * (k : Int).toNat ≤ 1000000 then some (PV.tl ((List.replicate (k : Int).toNat [D.non]).flatten.map .d), h) else none) = _
  rw [if_pos ⟨by omega, by omega, by simp; omega⟩, Int.toNat_natCast, List.flatten_replicate_singleton]
  unfold rowV rowL
  rw [List.map_replicate, List.map_replicate, List.map_replicate]
  rfl
theorem gt_set {x j : Nat} {r : Row} {v : Option Int} (s : Sq m M) (e : M[x]? = some r) (hj : j < m) : gt (M.set x (r.set j v)) = Clo.upd (gt M) x j v := by
  have rl := s.row r (List.mem_of_getElem? e)
  have hx := (List.getElem?_eq_some_iff.mp e).1
  funext a b
  unfold Clo.upd
  by_cases ha : a = x
  · subst ha
    rw [gt_row (M := M.set a (r.set j v)) (List.getElem?_set_self hx), gt_row e]
    by_cases hb : b = j
    · subst hb
      rw [if_pos ⟨rfl, rfl⟩, List.getElem?_set_self (by omega)]
      rfl
    · rw [if_neg fun c => hb c.2, List.getElem?_set_ne (Ne.symm hb)]
  · rw [if_neg fun c => ha c.1]
    unfold gt
    rw [List.getElem?_set_ne (Ne.symm ha)]
theorem Sq.set {x : Nat} {r : Row} {j : Nat} {v : Option Int} (s : Sq m M) (e : M[x]? = some r) : Sq m (M.set x (r.set j v)) := by
  refine ⟨by rw [List.length_set]; exact s.len, fun y hy => ?_⟩
  rcases List.mem_or_eq_of_mem_set hy with h | h
  · exact s.row y h
  · rw [h, List.length_set]
    exact s.row r (List.mem_of_getElem? e)
/-- the table stands in own cells; older cells are as they were -/
structure St (h hh : Hs) (m : Nat) (M : Mx) : Prop where
  sq : Sq m M
  at_ : MxAt hh (h.length + m) M (List.range' h.length m)
  pre : hh.take h.length = h
theorem St.lt {hh : Hs} (s : St h hh m M) : h.length ≤ hh.length := by
  have := congrArg List.length s.pre
  rw [List.length_take] at this
  omega
theorem St.row {hh : Hs} (s : St h hh m M) {x : Nat} (hx : x < m) : ∃ r, M[x]? = some r ∧ r.length = m ∧ L2.atI ((List.range' h.length m).map PV.ref) (x : Int) = some (.ref (h.length + x)) ∧ hh[h.length + x]? = some (.lst (rowL r)) := by
  obtain ⟨r, er, rl⟩ := s.sq.get hx
  obtain ⟨k, nk, ax, hk⟩ := s.at_.get er
  have : k = h.length + x := by
    rw [List.getElem?_range' hx] at nk
    cases nk
    omega
  subst this
  exact ⟨r, er, rl, ax, hk⟩
/-- an entry is written -/
theorem St.put {hh : Hs} (s : St h hh m M) {x j : Nat} {r : Row} {v : Option Int} (hx : x < m) (e : M[x]? = some r) : St h (hh.set (h.length + x) (.lst (rowL (r.set j v)))) m (M.set x (r.set j v)) := by
  refine ⟨s.sq.set e, s.at_.set own_new.nd (by rw [List.getElem?_range' hx]; congr 1; omega), ?_⟩
  rw [List.take_set_of_le (by omega)]
  exact s.pre
theorem w_put {fb c : Nat} {r : Row} {j : Nat} {v : Option Int} {U : Unit → Hs → Prop} (e : h[c]? = some (.lst (rowL r))) (hj : j < r.length) : Wp (setV fb (.ref c) (.d (.int (j : Nat))) (.d (oi v))) h U ↔ U () (h.set c (.lst (rowL (r.set j v)))) := by
  rw [w_set e (ixN_at (by rw [rowL_len]; exact hj)), rowL_set]
theorem St.rd {hh : Hs} (s : St h hh m M) {x y : Nat} (hx : x < m) (hy : y < m) {R : PV → Hs → Prop} : (Wp (idxV (.ref (h.length + m)) (.d (.int (x : Nat)))) hh fun v h1 => Wp (idxV v (.d (.int (y : Nat)))) h1 R) ↔ R (.d (oi (gt M x y))) hh := by
  obtain ⟨r, er, rl, ax, hk⟩ := s.row hx
  rw [w_ixR s.at_.cell ax, w_ixR hk (at_row (by omega)), gt_row er]
theorem St.wr {hh : Hs} {fb : Nat} (s : St h hh m M) {x y : Nat} (hx : x < m) (hy : y < m) {v : Option Int} {R : Unit → Hs → Prop} (q : ∀ hh' M', St h hh' m M' → gt M' = Clo.upd (gt M) x y v → R () hh') : Wp (idxV (.ref (h.length + m)) (.d (.int (x : Nat)))) hh fun o h1 => Wp (setV fb o (.d (.int (y : Nat))) (.d (oi v))) h1 R := by
  obtain ⟨r, er, rl, ax, hk⟩ := s.row hx
  rw [w_ixR s.at_.cell ax, w_put hk (by omega)]
  exact q _ _ (s.put hx er) (gt_set s.sq er hy)
def highsB (la : Nat) : List S := [.asg (.nm 2) (.comp [3] (.nm 3) (.rng1 (.var 0)) false (.cst (.bl true)) (.bin .mul (.lst [(.cst .non)]) (.var 0))), .fr (.nm 3) (.rng1 (.var 0)) [.sub (.idx (.var 2) (.var 3)) (.var 3) (.cst (.int 0))], .fr (.tup [(.nm 5), (.nm 6), (.nm 7), (.nm 8)]) (.seq (.call la [(.var 1)])) [.ife (.orr (.cmp .isN (.idx (.idx (.var 2) (.var 5)) (.var 6)) (.cst .non)) (.cmp .lt (.var 7) (.idx (.idx (.var 2) (.var 5)) (.var 6)))) [.sub (.idx (.var 2) (.var 5)) (.var 6) (.var 7)] []], .fr (.nm 4) (.rng1 (.var 0)) [.fr (.nm 3) (.rng1 (.var 0)) [.ife (.cmp .notN (.idx (.idx (.var 2) (.var 3)) (.var 4)) (.cst .non)) [.fr (.nm 9) (.rng1 (.var 0)) [.ife (.cmp .notN (.idx (.idx (.var 2) (.var 4)) (.var 9)) (.cst .non)) [.asg (.nm 10) (.bin .add (.idx (.idx (.var 2) (.var 3)) (.var 4)) (.idx (.idx (.var 2) (.var 4)) (.var 9))), .ife (.orr (.cmp .isN (.idx (.idx (.var 2) (.var 3)) (.var 9)) (.cst .non)) (.cmp .lt (.var 10) (.idx (.idx (.var 2) (.var 3)) (.var 9)))) [.sub (.idx (.var 2) (.var 3)) (.var 9) (.var 10)] []] []]] []]], .ret (.var 2)]
def hE (m : Nat) (rs : List Rd) (l : Nat) (e3 e4 e5 e6 e7 e8 e9 e10 : Option PV) : Env := [some (.d (.int m)), some (.d (rsD rs)), some (.ref (l + m)), e3, e4, e5, e6, e7, e8, e9, e10]
theorem highs_w {la : Nat} {rs : List Rd} (is : Is FT f 2 11 (highsB la)) (ila : Is FT la 1 7 larcsB) (hm : m ≤ 1000) (hl : rs.length ≤ 1000) (hr : RdsIn m rs)
    (q : ∀ M, Sq m M → Clo.Fw m (rs.flatMap arcsP) (gt M) → (Clo.Nn m (gt M) → Clo.Tri m m (gt M)) → Q (mxV M) h) : Wp (cal FT (d + 2) f [.d (.int m), .d (rsD rs)]) h Q := by
  refine is.call rfl ?_
  unfold highsB
  have hz : sizeLine = 2 ^ 24 := rfl
  have tn : ((m : Int) - 0).toNat = m := by omega
  refine w_cut (fun e hh => ∃ M, e = hE m rs h.length none none none none none none none none ∧ St h hh m M ∧ ∀ x y, x < m → y < m → gt M x y = none) ?_ ?_
  · simp only [Pe.Pw.ws, List.set_cons_zero, List.set_cons_succ, List.length_cons, List.length_nil, List.map_cons, List.map_nil, List.cons_append, List.nil_append, List.replicate_succ, List.replicate_zero, Nat.reduceSub, Nat.reduceAdd, Nat.reduceLT, true_and, and_true, if_true, Bool.false_eq_true, if_false, true_implies, false_implies, forall_const, decide_eq_true_eq, decide_eq_false_iff_not, Bool.not_eq_true', Bool.not_eq_false', reduceCtorEq]
    refine ⟨by omega, ?_⟩
    rw [tn]
    refine w_clg (fun _ => rowV (List.replicate m none)) (by omega) (fun x hx => ?_) ?_
    · simp only [Pe.Pw.ws, List.set_cons_zero, List.set_cons_succ, List.length_cons, List.length_nil, List.map_cons, List.map_nil, List.cons_append, List.nil_append, List.replicate_succ, List.replicate_zero, Nat.reduceSub, Nat.reduceAdd, Nat.reduceLT, true_and, and_true, if_true, Bool.false_eq_true, if_false, true_implies, false_implies, forall_const, decide_eq_true_eq, decide_eq_false_iff_not, Bool.not_eq_true', Bool.not_eq_false', reduceCtorEq, w_repN (show m ≤ 1000 by omega)]
      exact sz
    · have e : ((List.range m).map fun _ => rowV (List.replicate m none)) = (List.replicate m (List.replicate m none)).map rowV := by
        rw [List.map_replicate]
        apply List.ext_getElem?
        intro y
        rw [List.getElem?_map, List.getElem?_replicate]
        by_cases hy : y < m
        · rw [List.getElem?_range hy, if_pos hy]; rfl
        · rw [List.getElem?_eq_none (by simpa using hy), if_neg hy]; rfl
      rw [e]
      rw [show PV.tl ((List.replicate m (List.replicate m none)).map rowV) = mxV (List.replicate m (List.replicate m none)) from rfl, conv_mx]
      simp only [Pe.Pw.ws, List.set_cons_zero, List.set_cons_succ, List.length_cons, List.length_nil, List.map_cons, List.map_nil, List.cons_append, List.nil_append, List.replicate_succ, List.replicate_zero, Nat.reduceSub, Nat.reduceAdd, Nat.reduceLT, true_and, and_true, if_true, Bool.false_eq_true, if_false, true_implies, false_implies, forall_const, decide_eq_true_eq, decide_eq_false_iff_not, Bool.not_eq_true', Bool.not_eq_false', reduceCtorEq]
      have ml : (List.replicate m (List.replicate m (none : Option Int))).length = m := List.length_replicate
      have mx := mx_new (h := h) (M := List.replicate m (List.replicate m none))
      rw [ml] at mx ⊢
      refine ⟨_, rfl, ⟨⟨ml, fun r hr => by rw [List.eq_of_mem_replicate hr, List.length_replicate]⟩, mx, by rw [List.append_assoc, List.take_left]⟩, fun x y hx hy => ?_⟩
      unfold gt
      rw [List.getElem?_replicate, if_pos hx]
      simp only [Option.bind_some]
      rw [List.getElem?_replicate, if_pos hy]
      rfl
  rintro _ hh ⟨M, rfl, st, g0⟩
  refine w_cut (fun e hh => ∃ M e3, e = hE m rs h.length e3 none none none none none none none ∧ St h hh m M ∧ ∀ x y, x < m → y < m → gt M x y = if x = y then some 0 else none) ?_ ?_
  · simp only [Pe.Pw.ws, List.set_cons_zero, List.set_cons_succ, List.length_cons, List.length_nil, List.map_cons, List.map_nil, List.cons_append, List.nil_append, List.replicate_succ, List.replicate_zero, Nat.reduceSub, Nat.reduceAdd, Nat.reduceLT, true_and, and_true, if_true, Bool.false_eq_true, if_false, true_implies, false_implies, forall_const, decide_eq_true_eq, decide_eq_false_iff_not, Bool.not_eq_true', Bool.not_eq_false', reduceCtorEq, hE]
    refine ⟨by omega, ?_⟩
    rw [tn]
    refine w_forN (fun i e hh => ∃ M e3, e = hE m rs h.length e3 none none none none none none none ∧ St h hh m M ∧ ∀ x y, x < m → y < m → gt M x y = if x = y ∧ x < i then some 0 else none) ⟨M, none, rfl, st, fun x y hx hy => by rw [g0 x y hx hy, if_neg (show ¬ (x = y ∧ x < 0) by omega)]⟩ (fun i e hh hi p => ?_) fun e hh p => ?_
    · obtain ⟨M, e3, rfl, st, g0⟩ := p
      simp only [Pe.Pw.ws, List.set_cons_zero, List.set_cons_succ, List.length_cons, List.length_nil, List.map_cons, List.map_nil, List.cons_append, List.nil_append, List.replicate_succ, List.replicate_zero, Nat.reduceSub, Nat.reduceAdd, Nat.reduceLT, true_and, and_true, if_true, Bool.false_eq_true, if_false, true_implies, false_implies, forall_const, decide_eq_true_eq, decide_eq_false_iff_not, Bool.not_eq_true', Bool.not_eq_false', reduceCtorEq, hE]
      rw [Int.zero_add]
      refine st.wr (v := some 0) hi hi fun hh' M' st' ge => ?_
      refine ⟨M', _, rfl, st', fun x y hx hy => ?_⟩
      rw [ge]
      unfold Clo.upd
      rw [g0 x y hx hy]
      by_cases h1 : x = i ∧ y = i
      · obtain ⟨rfl, rfl⟩ := h1
        rw [if_pos ⟨rfl, rfl⟩, if_pos ⟨rfl, by omega⟩]
      · rw [if_neg h1]
        by_cases h2 : x = y ∧ x < i
        · rw [if_pos h2, if_pos ⟨h2.1, by omega⟩]
        · rw [if_neg h2, if_neg (show ¬ (x = y ∧ x < i + 1) by omega)]
    · obtain ⟨M, e3, rfl, st, g0⟩ := p
      refine ⟨M, e3, rfl, st, fun x y hx hy => ?_⟩
      rw [g0 x y hx hy]
      by_cases h2 : x = y
      · rw [if_pos ⟨h2, hx⟩, if_pos h2]
      · rw [if_neg (fun c => h2 c.1), if_neg h2]
  clear g0 st M hh
  rintro _ hh ⟨M, e3, rfl, st, g0⟩
  have f0 := Clo.Fw.start g0
  clear g0
  refine w_cut (fun e hh => ∃ M e5 e6 e7 e8, e = hE m rs h.length e3 none e5 e6 e7 e8 none none ∧ St h hh m M ∧ Clo.Fw m (rs.flatMap arcsP) (gt M)) ?_ ?_
  · simp only [Pe.Pw.ws, List.set_cons_zero, List.set_cons_succ, List.length_cons, List.length_nil, List.map_cons, List.map_nil, List.cons_append, List.nil_append, List.replicate_succ, List.replicate_zero, Nat.reduceSub, Nat.reduceAdd, Nat.reduceLT, true_and, and_true, if_true, Bool.false_eq_true, if_false, true_implies, false_implies, forall_const, decide_eq_true_eq, decide_eq_false_iff_not, Bool.not_eq_true', Bool.not_eq_false', reduceCtorEq, hE, w_iff (larcs_e (d := d) ila hl)]
    refine w_for (((allA 0 rs).map Ar.D).map PV.d) (fun i e hh => ∃ M e5 e6 e7 e8, e = hE m rs h.length e3 none e5 e6 e7 e8 none none ∧ St h hh m M ∧ Clo.Fw m (((allA 0 rs).map Ar.arc).take i) (gt M)) ⟨M, _, _, _, _, rfl, st, f0⟩ (fun _ _ _ _ _ => its_imm) (fun i e hh x ex p => ?_) fun e hh p => ?_
    · obtain ⟨M, e5, e6, e7, e8, rfl, st, fw⟩ := p
      have hi := (List.getElem?_eq_some_iff.mp ex).1
      rw [List.length_map, List.length_map] at hi
      rw [List.getElem?_map, List.getElem?_map, List.getElem?_eq_getElem hi] at ex
      cases ex
      have xi := arA_in hr (List.getElem_mem hi)
      have tk : ((allA 0 rs).map Ar.arc).take (i + 1) = ((allA 0 rs).map Ar.arc).take i ++ [((allA 0 rs)[i].a, (allA 0 rs)[i].b, (allA 0 rs)[i].w)] := by
        rw [List.take_add_one, List.getElem?_map, List.getElem?_eq_getElem hi]
        rfl
      rw [tk]
      generalize (allA 0 rs)[i] = x at *
      unfold Ar.D
      simp only [Pe.Pw.ws, List.set_cons_zero, List.set_cons_succ, List.length_cons, List.length_nil, List.map_cons, List.map_nil, List.cons_append, List.nil_append, List.replicate_succ, List.replicate_zero, Nat.reduceSub, Nat.reduceAdd, Nat.reduceLT, true_and, and_true, if_true, Bool.false_eq_true, if_false, true_implies, false_implies, forall_const, decide_eq_true_eq, decide_eq_false_iff_not, Bool.not_eq_true', Bool.not_eq_false', reduceCtorEq, hE, st.rd xi.1 xi.2]
      cases q1 : gt M x.a x.b with
      | none =>
        simp only [Pe.Pw.ws, List.set_cons_zero, List.set_cons_succ, List.length_cons, List.length_nil, List.map_cons, List.map_nil, List.cons_append, List.nil_append, List.replicate_succ, List.replicate_zero, Nat.reduceSub, Nat.reduceAdd, Nat.reduceLT, true_and, and_true, if_true, Bool.false_eq_true, if_false, true_implies, false_implies, forall_const, decide_eq_true_eq, decide_eq_false_iff_not, Bool.not_eq_true', Bool.not_eq_false', reduceCtorEq, oi, isNon]
        refine st.wr (v := some x.w) xi.1 xi.2 fun hh' M' st' ge => ?_
        exact ⟨M', _, _, _, _, rfl, st', by rw [ge]; exact fw.arcStep fun u e => by rw [q1] at e; cases e⟩
      | some u =>
        simp only [Pe.Pw.ws, List.set_cons_zero, List.set_cons_succ, List.length_cons, List.length_nil, List.map_cons, List.map_nil, List.cons_append, List.nil_append, List.replicate_succ, List.replicate_zero, Nat.reduceSub, Nat.reduceAdd, Nat.reduceLT, true_and, and_true, if_true, Bool.false_eq_true, if_false, true_implies, false_implies, forall_const, decide_eq_true_eq, decide_eq_false_iff_not, Bool.not_eq_true', Bool.not_eq_false', reduceCtorEq, oi, isNon, st.rd xi.1 xi.2, q1]
        refine ⟨fun z => ?_, fun z => ?_⟩
        · refine st.wr (v := some x.w) xi.1 xi.2 fun hh' M' st' ge => ?_
          exact ⟨M', _, _, _, _, rfl, st', by rw [ge]; exact fw.arcStep fun u' e => by rw [q1] at e; cases e; exact z⟩
        · exact ⟨M, _, _, _, _, rfl, st, fw.arcKeep q1 (by omega)⟩
    · obtain ⟨M, e5, e6, e7, e8, rfl, st, fw⟩ := p
      rw [List.length_map, List.length_map, List.take_of_length_le (by rw [List.length_map]; omega), allA_arc] at fw
      exact ⟨M, _, _, _, _, rfl, st, fw⟩
  clear f0 st M hh
  rintro _ hh ⟨M, e5, e6, e7, e8, rfl, st, fw⟩
  refine w_cut (fun e hh => ∃ M e3 e4 e9 e10, e = hE m rs h.length e3 e4 e5 e6 e7 e8 e9 e10 ∧ St h hh m M ∧ Clo.Fw m (rs.flatMap arcsP) (gt M) ∧ (Clo.Nn m (gt M) → Clo.Tri m m (gt M))) ?_ ?_
  · simp only [Pe.Pw.ws, List.set_cons_zero, List.set_cons_succ, List.length_cons, List.length_nil, List.map_cons, List.map_nil, List.cons_append, List.nil_append, List.replicate_succ, List.replicate_zero, Nat.reduceSub, Nat.reduceAdd, Nat.reduceLT, true_and, and_true, if_true, Bool.false_eq_true, if_false, true_implies, false_implies, forall_const, decide_eq_true_eq, decide_eq_false_iff_not, Bool.not_eq_true', Bool.not_eq_false', reduceCtorEq, hE]
    refine ⟨by omega, ?_⟩
    rw [tn]
    refine w_forN (fun z e hh => ∃ M e3 e4 e9 e10, e = hE m rs h.length e3 e4 e5 e6 e7 e8 e9 e10 ∧ St h hh m M ∧ Clo.Fw m (rs.flatMap arcsP) (gt M) ∧ (Clo.Nn m (gt M) → Clo.Tri m z (gt M))) ⟨M, _, _, _, _, rfl, st, fw, fun _ z hz => absurd hz (Nat.not_lt_zero z)⟩ (fun z e hh hz p => ?_) fun e hh p => p
    clear fw st M
    obtain ⟨M0, e3, e4, e9, e10, rfl, st, f0, tr⟩ := p
    simp only [Pe.Pw.ws, List.set_cons_zero, List.set_cons_succ, List.length_cons, List.length_nil, List.map_cons, List.map_nil, List.cons_append, List.nil_append, List.replicate_succ, List.replicate_zero, Nat.reduceSub, Nat.reduceAdd, Nat.reduceLT, true_and, and_true, if_true, Bool.false_eq_true, if_false, true_implies, false_implies, forall_const, decide_eq_true_eq, decide_eq_false_iff_not, Bool.not_eq_true', Bool.not_eq_false', reduceCtorEq, hE]
    refine ⟨by omega, ?_⟩
    rw [tn, Int.zero_add]
    refine w_forN (fun i e hh => ∃ M e3 e9 e10, e = hE m rs h.length e3 (some (.d (.int (z : Nat)))) e5 e6 e7 e8 e9 e10 ∧ St h hh m M ∧ Clo.Fw m (rs.flatMap arcsP) (gt M) ∧ Clo.Mid m (gt M0) (gt M) z fun x y => x < i) ⟨M0, _, _, _, rfl, st, f0, Clo.Mid.start.weak fun x y _ _ h => absurd h (Nat.not_lt_zero x)⟩ (fun i e hh hi p => ?_) fun e hh p => ?_
    · obtain ⟨M, e3, e9, e10, rfl, st, fw, md⟩ := p
      simp only [Pe.Pw.ws, List.set_cons_zero, List.set_cons_succ, List.length_cons, List.length_nil, List.map_cons, List.map_nil, List.cons_append, List.nil_append, List.replicate_succ, List.replicate_zero, Nat.reduceSub, Nat.reduceAdd, Nat.reduceLT, true_and, and_true, if_true, Bool.false_eq_true, if_false, true_implies, false_implies, forall_const, decide_eq_true_eq, decide_eq_false_iff_not, Bool.not_eq_true', Bool.not_eq_false', reduceCtorEq, hE]
      simp only [Int.zero_add]
      simp only [Pe.Pw.ws, List.set_cons_zero, List.set_cons_succ, List.length_cons, List.length_nil, List.map_cons, List.map_nil, List.cons_append, List.nil_append, List.replicate_succ, List.replicate_zero, Nat.reduceSub, Nat.reduceAdd, Nat.reduceLT, true_and, and_true, if_true, Bool.false_eq_true, if_false, true_implies, false_implies, forall_const, decide_eq_true_eq, decide_eq_false_iff_not, Bool.not_eq_true', Bool.not_eq_false', reduceCtorEq, st.rd hi hz]
      cases q1 : gt M i z with
      | none =>
        simp only [Pe.Pw.ws, List.set_cons_zero, List.set_cons_succ, List.length_cons, List.length_nil, List.map_cons, List.map_nil, List.cons_append, List.nil_append, List.replicate_succ, List.replicate_zero, Nat.reduceSub, Nat.reduceAdd, Nat.reduceLT, true_and, and_true, if_true, Bool.false_eq_true, if_false, true_implies, false_implies, forall_const, decide_eq_true_eq, decide_eq_false_iff_not, Bool.not_eq_true', Bool.not_eq_false', reduceCtorEq, oi, isNon, Bool.not_true]
        refine ⟨M, _, _, _, rfl, st, fw, (md.skipRow hi q1).weak fun x y _ _ h => ?_⟩
        omega
      | some p0 =>
        simp only [Pe.Pw.ws, List.set_cons_zero, List.set_cons_succ, List.length_cons, List.length_nil, List.map_cons, List.map_nil, List.cons_append, List.nil_append, List.replicate_succ, List.replicate_zero, Nat.reduceSub, Nat.reduceAdd, Nat.reduceLT, true_and, and_true, if_true, Bool.false_eq_true, if_false, true_implies, false_implies, forall_const, decide_eq_true_eq, decide_eq_false_iff_not, Bool.not_eq_true', Bool.not_eq_false', reduceCtorEq, oi, isNon, Bool.not_false]
        refine ⟨by omega, ?_⟩
        rw [tn]
        refine w_forN (fun j e hh => ∃ M e9 e10, e = hE m rs h.length (some (.d (.int (i : Nat)))) (some (.d (.int (z : Nat)))) e5 e6 e7 e8 e9 e10 ∧ St h hh m M ∧ Clo.Fw m (rs.flatMap arcsP) (gt M) ∧ (gt M i z).isSome = true ∧ Clo.Mid m (gt M0) (gt M) z fun x y => x < i ∨ (x = i ∧ y < j)) ⟨M, _, _, rfl, st, fw, by rw [q1]; rfl, md.weak fun x y _ _ h => by omega⟩ (fun j e hh hj p => ?_) fun e hh p => ?_
        · clear fw md q1 st M
          obtain ⟨M, e9, e10, rfl, st, fw, is1, md⟩ := p
          obtain ⟨p1, q1⟩ := Option.isSome_iff_exists.mp is1
          simp only [Pe.Pw.ws, List.set_cons_zero, List.set_cons_succ, List.length_cons, List.length_nil, List.map_cons, List.map_nil, List.cons_append, List.nil_append, List.replicate_succ, List.replicate_zero, Nat.reduceSub, Nat.reduceAdd, Nat.reduceLT, true_and, and_true, if_true, Bool.false_eq_true, if_false, true_implies, false_implies, forall_const, decide_eq_true_eq, decide_eq_false_iff_not, Bool.not_eq_true', Bool.not_eq_false', reduceCtorEq, hE]
          simp only [Int.zero_add]
          simp only [Pe.Pw.ws, List.set_cons_zero, List.set_cons_succ, List.length_cons, List.length_nil, List.map_cons, List.map_nil, List.cons_append, List.nil_append, List.replicate_succ, List.replicate_zero, Nat.reduceSub, Nat.reduceAdd, Nat.reduceLT, true_and, and_true, if_true, Bool.false_eq_true, if_false, true_implies, false_implies, forall_const, decide_eq_true_eq, decide_eq_false_iff_not, Bool.not_eq_true', Bool.not_eq_false', reduceCtorEq, st.rd hz hj]
          cases q2 : gt M z j with
          | none =>
            simp only [Pe.Pw.ws, List.set_cons_zero, List.set_cons_succ, List.length_cons, List.length_nil, List.map_cons, List.map_nil, List.cons_append, List.nil_append, List.replicate_succ, List.replicate_zero, Nat.reduceSub, Nat.reduceAdd, Nat.reduceLT, true_and, and_true, if_true, Bool.false_eq_true, if_false, true_implies, false_implies, forall_const, decide_eq_true_eq, decide_eq_false_iff_not, Bool.not_eq_true', Bool.not_eq_false', reduceCtorEq, oi, isNon, Bool.not_true]
            refine ⟨M, _, _, rfl, st, fw, is1, (md.skip hi hj (.inr q2)).weak fun x y _ _ h => ?_⟩
            omega
          | some p2 =>
            simp only [Pe.Pw.ws, List.set_cons_zero, List.set_cons_succ, List.length_cons, List.length_nil, List.map_cons, List.map_nil, List.cons_append, List.nil_append, List.replicate_succ, List.replicate_zero, Nat.reduceSub, Nat.reduceAdd, Nat.reduceLT, true_and, and_true, if_true, Bool.false_eq_true, if_false, true_implies, false_implies, forall_const, decide_eq_true_eq, decide_eq_false_iff_not, Bool.not_eq_true', Bool.not_eq_false', reduceCtorEq, oi, isNon, Bool.not_false, st.rd hi hz, q1, st.rd hz hj, q2, st.rd hi hj]
            cases q3 : gt M i j with
            | none =>
              simp only [Pe.Pw.ws, List.set_cons_zero, List.set_cons_succ, List.length_cons, List.length_nil, List.map_cons, List.map_nil, List.cons_append, List.nil_append, List.replicate_succ, List.replicate_zero, Nat.reduceSub, Nat.reduceAdd, Nat.reduceLT, true_and, and_true, if_true, Bool.false_eq_true, if_false, true_implies, false_implies, forall_const, decide_eq_true_eq, decide_eq_false_iff_not, Bool.not_eq_true', Bool.not_eq_false', reduceCtorEq, oi, isNon]
              refine st.wr (v := some (p1 + p2)) hi hj fun hh' M' st' ge => ?_
              have lt : ∀ u, gt M i j = some u → p1 + p2 < u := fun u e => by rw [q3] at e; cases e
              refine ⟨M', _, _, rfl, st', ?_, ?_, ?_⟩
              · rw [ge]; exact fw.upd hi hj hz q1 q2 lt
              · rw [ge]; exact Clo.upd_some is1
              · rw [ge]; exact (md.step f0 hz hi hj q1 q2 lt).weak fun x y _ _ h => by omega
            | some u =>
              simp only [Pe.Pw.ws, List.set_cons_zero, List.set_cons_succ, List.length_cons, List.length_nil, List.map_cons, List.map_nil, List.cons_append, List.nil_append, List.replicate_succ, List.replicate_zero, Nat.reduceSub, Nat.reduceAdd, Nat.reduceLT, true_and, and_true, if_true, Bool.false_eq_true, if_false, true_implies, false_implies, forall_const, decide_eq_true_eq, decide_eq_false_iff_not, Bool.not_eq_true', Bool.not_eq_false', reduceCtorEq, oi, isNon, st.rd hi hj, q3]
              refine ⟨fun l => ?_, fun l => ?_⟩
              · refine st.wr (v := some (p1 + p2)) hi hj fun hh' M' st' ge => ?_
                have lt : ∀ u, gt M i j = some u → p1 + p2 < u := fun u' e => by rw [q3] at e; cases e; exact l
                refine ⟨M', _, _, rfl, st', ?_, ?_, ?_⟩
                · rw [ge]; exact fw.upd hi hj hz q1 q2 lt
                · rw [ge]; exact Clo.upd_some is1
                · rw [ge]; exact (md.step f0 hz hi hj q1 q2 lt).weak fun x y _ _ h => by omega
              · refine ⟨M, _, _, rfl, st, fw, is1, (md.keep hi hj q1 q2 q3 (by omega)).weak fun x y _ _ h => ?_⟩
                omega
        · obtain ⟨M, e9, e10, rfl, st, fw, is1, md⟩ := p
          simp only [Pe.Pw.ws, List.set_cons_zero, List.set_cons_succ, List.length_cons, List.length_nil, List.map_cons, List.map_nil, List.cons_append, List.nil_append, List.replicate_succ, List.replicate_zero, Nat.reduceSub, Nat.reduceAdd, Nat.reduceLT, true_and, and_true, if_true, Bool.false_eq_true, if_false, true_implies, false_implies, forall_const, decide_eq_true_eq, decide_eq_false_iff_not, Bool.not_eq_true', Bool.not_eq_false', reduceCtorEq, hE]
          refine ⟨M, _, _, _, rfl, st, fw, md.weak fun x y _ hy h => ?_⟩
          omega
    · obtain ⟨M, e3, e9, e10, rfl, st, fw, md⟩ := p
      simp only [Pe.Pw.ws, List.set_cons_zero, List.set_cons_succ, List.length_cons, List.length_nil, List.map_cons, List.map_nil, List.cons_append, List.nil_append, List.replicate_succ, List.replicate_zero, Nat.reduceSub, Nat.reduceAdd, Nat.reduceLT, true_and, and_true, if_true, Bool.false_eq_true, if_false, true_implies, false_implies, forall_const, decide_eq_true_eq, decide_eq_false_iff_not, Bool.not_eq_true', Bool.not_eq_false', reduceCtorEq, hE]
      exact ⟨M, _, _, _, _, rfl, st, fw, (md.weak fun x y hx _ _ => hx).tri f0 hz tr⟩
  clear fw st M hh
  rintro _ hh ⟨M, e3, e4, e9, e10, rfl, st, fw, tr⟩
  simp only [Pe.Pw.ws, List.set_cons_zero, List.set_cons_succ, List.length_cons, List.length_nil, List.map_cons, List.map_nil, List.cons_append, List.nil_append, List.replicate_succ, List.replicate_zero, Nat.reduceSub, Nat.reduceAdd, Nat.reduceLT, true_and, and_true, if_true, Bool.false_eq_true, if_false, true_implies, false_implies, forall_const, decide_eq_true_eq, decide_eq_false_iff_not, Bool.not_eq_true', Bool.not_eq_false', reduceCtorEq, hE]
  have o := own_new (h := h) (k := m)
  rw [lv_mx st.at_ o, st.pre]
  exact q M st.sq fw tr
end
end Pe.Pw
/-! Pe: _law_table. -/
namespace Pe.Pw
open PySem
section
variable {FT : List Fn} {h : Hs} {Q : PV → Hs → Prop} {n d f : Nat} {M : Mx} {ns : List Nat} {m : Nat}
theorem MxAt.rd (a : MxAt h n M ns) (s : Sq m M) {x y : Nat} (hx : x < m) (hy : y < m) {R : PV → Hs → Prop} : (Wp (idxV (.ref n) (.d (.int (x : Nat)))) h fun v h1 => Wp (idxV v (.d (.int (y : Nat)))) h1 R) ↔ R (.d (oi (gt M x y))) h := by
  obtain ⟨r, er, rl⟩ := s.get hx
  obtain ⟨k, _, ax, hk⟩ := a.get er
  rw [w_ixR a.cell ax, w_ixR hk (at_row (by omega)), gt_row er]
end
end Pe.Pw
/-! Pe: readings that hold at places; a table's one value. -/
namespace Pe.Pw
open PySem
def Rd.fits (r : Rd) (ps : List Int) : Prop := (∀ l, r.lo = some l → l ≤ ps.getD r.b 0 - ps.getD r.a 0) ∧ ∀ l, r.hi = some l → ps.getD r.b 0 - ps.getD r.a 0 ≤ l
section
variable {FT : List Fn} {h : Hs} {Q : PV → Hs → Prop} {n d f : Nat}
end
/-! a table's one value -/
open Classical in
noncomputable def minWay (A : List Clo.Arc) : Clo.Tb := fun x y => if h : ∃ u, Clo.Way A x y u ∧ ∀ v, Clo.Way A x y v → u ≤ v then some (choose h) else none
theorem cl_min {m : Nat} {A : List Clo.Arc} {T : Clo.Tb} (c : Clo.Cl m A T) {x y : Nat} (hx : x < m) (hy : y < m) : T x y = minWay A x y := by
  unfold minWay
  cases e : T x y with
  | none =>
    rw [dif_neg]
    rintro ⟨u, w, _⟩
    obtain ⟨v, ev, _⟩ := c.least x y u hx hy w
    rw [e] at ev
    cases ev
  | some u =>
    have w := c.way x y u hx hy e
    have l : ∀ v, Clo.Way A x y v → u ≤ v := fun v wv => by
      obtain ⟨u', e', l⟩ := c.least x y v hx hy wv
      rw [e] at e'
      cases e'
      exact l
    have hh : ∃ u, Clo.Way A x y u ∧ ∀ v, Clo.Way A x y v → u ≤ v := ⟨u, w, l⟩
    rw [dif_pos hh]
    have s := Classical.choose_spec hh
    congr 1
    have h1 := l _ s.1
    have h2 := s.2 u w
    omega
theorem nb_oi {o : Option Int} : nbD (oi o) = true := by cases o <;> rfl
section
variable {FT : List Fn} {h : Hs} {Q : PV → Hs → Prop} {n d f m : Nat} {rs : List Rd}
end
end Pe.Pw
/-! Pe: the places nearest 0 of a table (told_places, _law_told). -/
namespace Pe.Pw
open PySem
/-! plain -/
section
variable {FT : List Fn} {h : Hs} {Q : PV → Hs → Prop} {n d f : Nat} {M : Mx} {ns : List Nat} {m : Nat}
theorem at_rng {α : Type} {g : Nat → α} {x : Nat} (hx : x < m) : L2.atI ((List.range m).map g) (x : Int) = some (g x) := by
  rw [atI_map, atI_nat, List.getElem?_range hx]
  rfl
def isNumB : List S := [.ret (.an (.blt (.isi [.int]) [(.var 0)]) (.nt (.blt (.isi [.bool]) [(.var 0)])))]
def isRowB : List S := [.ret (.an (.blt (.isi [.tuple]) [(.var 0)]) (.cmp .eq (.blt .len [(.var 0)]) (.var 1)))]
end
end Pe.Pw
/-! Pe: ways of just k arcs, the first way of least arcs, its names. Plain. -/
namespace Pe.Pw
open PySem
/-! ways with their number of arcs -/
inductive Wn (A : List Clo.Arc) : Nat → Nat → Nat → Int → Prop
  | nil (x : Nat) : Wn A 0 x x 0
  | cons {k a b y : Nat} {w v : Int} (h : (a, b, w) ∈ A) (t : Wn A k b y v) : Wn A (k + 1) a y (w + v)
theorem Wn.way {A : List Clo.Arc} {k x y : Nat} {v : Int} (w : Wn A k x y v) : Clo.Way A x y v := by
  induction w with
  | nil x => exact .nil x
  | cons h _ ih => exact .cons h ih
/-- with all its marks -/
inductive Sw (A : List Clo.Arc) : List Nat → Nat → Nat → Int → Prop
  | nil (x : Nat) : Sw A [x] x x 0
  | cons {l : List Nat} {a b y : Nat} {w v : Int} (h : (a, b, w) ∈ A) (t : Sw A l b y v) : Sw A (a :: l) a y (w + v)
theorem Sw.wn {A : List Clo.Arc} {l : List Nat} {x y : Nat} {v : Int} (w : Sw A l x y v) : Wn A (l.length - 1) x y v := by
  induction w with
  | nil x => exact .nil x
  | @cons l a b y w v h t ih =>
    have : (a :: l).length - 1 = (l.length - 1) + 1 := by
      cases t <;> rfl
    rw [this]
    exact .cons h ih
theorem Sw.split {A : List Clo.Arc} {l : List Nat} {x y z : Nat} {v : Int} (w : Sw A l x y v) (hz : z ∈ l) (nd : l.Nodup) : ∃ l2 p u, Sw A l2 z y u ∧ Clo.Way A x z p ∧ v = p + u ∧ l2.Nodup ∧ ∀ q ∈ l2, q ∈ l := by
  induction w with
  | nil x =>
    rw [List.mem_singleton.mp hz]
    exact ⟨[x], 0, 0, .nil x, .nil x, rfl, nd, fun _ h => h⟩
  | @cons l a b y w v h t ih =>
    rcases List.mem_cons.mp hz with e | e
    · subst e
      exact ⟨z :: l, 0, w + v, .cons h t, .nil z, by omega, nd, fun _ h => h⟩
    · obtain ⟨l2, p, u, s, wy, e2, n2, sub⟩ := ih e (List.nodup_cons.mp nd).2
      exact ⟨l2, w + p, u, s, .cons h wy, by omega, n2, fun q hq => List.mem_cons_of_mem _ (sub q hq)⟩
/-! the tables -/
def relax (T : Clo.Tb) (U : Clo.Tb) (r : Ar) : Clo.Tb := fun x y => if x = r.a then sh1 (U x y) r.w (T r.b y) else U x y
def longT (as : List Ar) (T : Clo.Tb) : Clo.Tb := as.foldl (relax T) fun _ _ => none
def wkT (as : List Ar) : Nat → Clo.Tb
  | 0 => fun x y => if x = y then some 0 else none
  | k + 1 => longT as (wkT as k)
/-! names -/
def fitA (F : Clo.Tb) (now goal : Nat) (L : Int) (r : Ar) : Bool := decide (r.a = now) && match F r.b goal with
  | some t => decide (r.w + t < L)
  | none => false
def pickA (as : List Ar) (F : Clo.Tb) (now goal : Nat) (L : Int) : Option Ar := as.find? (fitA F now goal L)
def namesP (as : List Ar) : Nat → Nat → Nat → Int → List Ar
  | 0, _, _, _ => []
  | k + 1, now, goal, L => match pickA as (wkT as k) now goal L with
    | some r => r :: namesP as k r.b goal (L - r.w)
    | none => namesP as k now goal L
end Pe.Pw
/-! Pe: longer_walks, _law_longer. -/
namespace Pe.Pw
open PySem
def Inn (m a j : Nat) (w : Int) (U : Clo.Tb) (A : Nat → Option Int) (G : Clo.Tb) : Prop := ∀ x y, x < m → y < m → G x y = if x = a ∧ y < j then sh1 (U x y) w (A y) else U x y
section
variable {m a j : Nat} {w : Int} {U G : Clo.Tb} {A : Nat → Option Int}
theorem Inn.at_ (i : Inn m a j w U A G) (ha : a < m) (hj : j < m) : G a j = U a j := by rw [i a j ha hj, if_neg (by omega)]
theorem Inn.set (i : Inn m a j w U A G) : Inn m a (j + 1) w U A (Clo.upd G a j (sh1 (U a j) w (A j))) := fun x y hx hy => by
  unfold Clo.upd
  by_cases h : x = a ∧ y = j
  · obtain ⟨rfl, rfl⟩ := h
    rw [if_pos ⟨rfl, rfl⟩, if_pos ⟨rfl, by omega⟩]
  · rw [if_neg h, i x y hx hy]
    by_cases h2 : x = a ∧ y < j
    · rw [if_pos h2, if_pos ⟨h2.1, by omega⟩]
    · rw [if_neg h2, if_neg (fun c => by
        have : y ≠ j := fun e => h ⟨c.1, e⟩
        exact h2 ⟨c.1, by omega⟩)]
theorem Inn.keep (i : Inn m a j w U A G) (e : sh1 (U a j) w (A j) = U a j) : Inn m a (j + 1) w U A G := fun x y hx hy => by
  rw [i x y hx hy]
  by_cases h2 : x = a ∧ y < j
  · rw [if_pos h2, if_pos ⟨h2.1, by omega⟩]
  · rw [if_neg h2]
    by_cases h : x = a ∧ y = j
    · obtain ⟨rfl, rfl⟩ := h
      rw [if_pos ⟨rfl, by omega⟩, e]
    · rw [if_neg (fun c => by
        have : y ≠ j := fun e => h ⟨c.1, e⟩
        exact h2 ⟨c.1, by omega⟩)]
theorem Inn.zero (e : ∀ x y, x < m → y < m → G x y = U x y) : Inn m a 0 w U A G := fun x y hx hy => by rw [e x y hx hy, if_neg (by omega)]
end
section
variable {FT : List Fn} {h : Hs} {Q : PV → Hs → Prop} {n d f : Nat} {M : Mx} {ns : List Nat} {m : Nat}
theorem St.old {hh : Hs} (s : St h hh m M) {i : Nat} {c : Cell} (e : h[i]? = some c) : hh[i]? = some c := by
  have hi := (List.getElem?_eq_some_iff.mp e).1
  have := s.pre
  rw [← this, List.getElem?_take_of_lt hi] at e
  exact e
theorem St.mx {hh : Hs} {M' : Mx} (s : St h hh m M') (a : MxAt h n M ns) : MxAt hh n M ns := a.keep fun _ _ e _ => s.old e
theorem St.getR {hh : Hs} (s : St h hh m M) {x : Nat} (hx : x < m) {R : PV → Hs → Prop} : Wp (idxV (.ref (h.length + m)) (.d (.int (x : Nat)))) hh R ↔ R (.ref (h.length + x)) hh := by
  obtain ⟨r, er, rl, ax, hk⟩ := s.row hx
  rw [w_ixR s.at_.cell ax]
theorem St.rdR {hh : Hs} (s : St h hh m M) {x y : Nat} (hx : x < m) (hy : y < m) {R : PV → Hs → Prop} : Wp (idxV (.ref (h.length + x)) (.d (.int (y : Nat)))) hh R ↔ R (.d (oi (gt M x y))) hh := by
  obtain ⟨r, er, rl, ax, hk⟩ := s.row hx
  rw [w_ixR hk (at_row (by omega)), gt_row er]
theorem St.wrR {hh : Hs} {fb : Nat} (s : St h hh m M) {x y : Nat} (hx : x < m) (hy : y < m) {v : Option Int} {R : Unit → Hs → Prop} (q : ∀ hh' M', St h hh' m M' → gt M' = Clo.upd (gt M) x y v → R () hh') : Wp (setV fb (.ref (h.length + x)) (.d (.int (y : Nat))) (.d (oi v))) hh R := by
  obtain ⟨r, er, rl, ax, hk⟩ := s.row hx
  rw [w_put hk (by omega)]
  exact q _ _ (s.put hx er) (gt_set s.sq er hy)
def noneM (m : Nat) : Mx := List.replicate m (List.replicate m none)
theorem none_rows : ((List.range m).map fun _ => rowV (List.replicate m none)) = (noneM m).map rowV := by
  unfold noneM
  rw [List.map_replicate]
  apply List.ext_getElem?
  intro y
  rw [List.getElem?_map, List.getElem?_replicate]
  by_cases hy : y < m
  · rw [List.getElem?_range hy, if_pos hy]; rfl
  · rw [List.getElem?_eq_none (by simpa using hy), if_neg hy]; rfl
theorem none_len : (noneM m).length = m := List.length_replicate
theorem none_st : St h (h ++ (noneM m).map rowC ++ [.lst ((List.range' h.length m).map .ref)]) m (noneM m) := by
  have mx := mx_new (h := h) (M := noneM m)
  rw [none_len] at mx
  exact ⟨⟨none_len, fun r hr => by rw [List.eq_of_mem_replicate hr, List.length_replicate]⟩, mx, by rw [List.append_assoc, List.take_left]⟩
theorem none_gt {x y : Nat} (hx : x < m) (hy : y < m) : gt (noneM m) x y = none := by
  unfold gt noneM
  rw [List.getElem?_replicate, if_pos hx]
  simp only [Option.bind_some]
  rw [List.getElem?_replicate, if_pos hy]
  rfl
theorem fold_take {T : Clo.Tb} {as : List Ar} {i : Nat} (hi : i < as.length) : (as.take (i + 1)).foldl (relax T) (fun _ _ => none) = relax T ((as.take i).foldl (relax T) fun _ _ => none) as[i] := by
  rw [List.take_add_one, List.getElem?_eq_getElem hi, List.foldl_append]
  rfl
def lE2 (m k n l : Nat) (e4 e5 e6 e7 e8 e9 e10 e11 : Option PV) : Env := [some (.d (.int m)), some (.ref k), some (.ref n), some (.ref (l + m)), e4, e5, e6, e7, e8, e9, e10, e11]
def llongerB : List S := [.asg (.nm 3) (.comp [10] (.nm 10) (.rng1 (.var 0)) false (.cst (.bl true)) (.bin .mul (.lst [(.cst .non)]) (.var 0))), .fr (.tup [(.nm 4), (.nm 5), (.nm 6), (.nm 7)]) (.seq (.var 1)) [.asg (.nm 8) (.idx (.var 3) (.var 4)), .fr (.nm 9) (.rng1 (.var 0)) [.asg (.nm 11) (.idx (.idx (.var 2) (.var 5)) (.var 9)), .ife (.an (.cmp .notN (.var 11) (.cst .non)) (.orr (.cmp .isN (.idx (.var 8) (.var 9)) (.cst .non)) (.cmp .lt (.bin .add (.var 6) (.var 11)) (.idx (.var 8) (.var 9))))) [.sub (.var 8) (.var 9) (.bin .add (.var 6) (.var 11))] []]], .ret (.var 3)]
theorem llonger_w {k : Nat} {as : List Ar} (is : Is FT f 3 12 llongerB) (ek : h[k]? = some (.lst (arcsC as))) (a : MxAt h n M ns) (s : Sq m M) (hA : ArsIn m as) (hm : m ≤ 1000) (hl : as.length ≤ 5000) (q : ∀ M', Sq m M' → (∀ x y, x < m → y < m → gt M' x y = longT as (gt M) x y) → Q (mxV M') h) : Wp (cal FT (d + 1) f [.d (.int m), .ref k, .ref n]) h Q := by
  refine is.call rfl ?_
  unfold llongerB
  have hz : sizeLine = 2 ^ 24 := rfl
  have tn : ((m : Int) - 0).toNat = m := by omega
  refine w_cut (fun e hh => ∃ M', e = lE2 m k n h.length none none none none none none none none ∧ St h hh m M' ∧ ∀ x y, x < m → y < m → gt M' x y = none) ?_ ?_
  · simp only [Pe.Pw.ws, List.set_cons_zero, List.set_cons_succ, List.length_cons, List.length_nil, List.map_cons, List.map_nil, List.cons_append, List.nil_append, List.replicate_succ, List.replicate_zero, Nat.reduceSub, Nat.reduceAdd, Nat.reduceLT, true_and, and_true, if_true, Bool.false_eq_true, if_false, true_implies, false_implies, forall_const, decide_eq_true_eq, decide_eq_false_iff_not, Bool.not_eq_true', Bool.not_eq_false', reduceCtorEq]
    refine ⟨by omega, ?_⟩
    rw [tn]
    refine w_clg (fun _ => rowV (List.replicate m none)) (by omega) (fun x hx => ?_) ?_
    · simp only [Pe.Pw.ws, List.set_cons_zero, List.set_cons_succ, List.length_cons, List.length_nil, List.map_cons, List.map_nil, List.cons_append, List.nil_append, List.replicate_succ, List.replicate_zero, Nat.reduceSub, Nat.reduceAdd, Nat.reduceLT, true_and, and_true, if_true, Bool.false_eq_true, if_false, true_implies, false_implies, forall_const, decide_eq_true_eq, decide_eq_false_iff_not, Bool.not_eq_true', Bool.not_eq_false', reduceCtorEq, w_repN (show m ≤ 1000 by omega)]
      exact sz
    · rw [none_rows, show PV.tl ((noneM m).map rowV) = mxV (noneM m) from rfl, conv_mx, none_len]
      simp only [Pe.Pw.ws, List.set_cons_zero, List.set_cons_succ, List.length_cons, List.length_nil, List.map_cons, List.map_nil, List.cons_append, List.nil_append, List.replicate_succ, List.replicate_zero, Nat.reduceSub, Nat.reduceAdd, Nat.reduceLT, true_and, and_true, if_true, Bool.false_eq_true, if_false, true_implies, false_implies, forall_const, decide_eq_true_eq, decide_eq_false_iff_not, Bool.not_eq_true', Bool.not_eq_false', reduceCtorEq]
      exact ⟨_, rfl, none_st, fun x y hx hy => none_gt hx hy⟩
  rintro _ hh ⟨M', rfl, st, g0⟩
  refine w_cut (fun e hh => ∃ M' e4 e5 e6 e7 e8 e9 e10 e11, e = lE2 m k n h.length e4 e5 e6 e7 e8 e9 e10 e11 ∧ St h hh m M' ∧ ∀ x y, x < m → y < m → gt M' x y = longT as (gt M) x y) ?_ ?_
  · simp only [Pe.Pw.ws, List.set_cons_zero, List.set_cons_succ, List.length_cons, List.length_nil, List.map_cons, List.map_nil, List.cons_append, List.nil_append, List.replicate_succ, List.replicate_zero, Nat.reduceSub, Nat.reduceAdd, Nat.reduceLT, true_and, and_true, if_true, Bool.false_eq_true, if_false, true_implies, false_implies, forall_const, decide_eq_true_eq, decide_eq_false_iff_not, Bool.not_eq_true', Bool.not_eq_false', reduceCtorEq, lE2]
    refine w_for (arcsC as) (fun i e hh => ∃ M' e4 e5 e6 e7 e8 e9 e10 e11, e = lE2 m k n h.length e4 e5 e6 e7 e8 e9 e10 e11 ∧ St h hh m M' ∧ ∀ x y, x < m → y < m → gt M' x y = (as.take i).foldl (relax (gt M)) (fun _ _ => none) x y) ⟨M', _, _, _, _, _, _, _, _, rfl, st, g0⟩ (fun i e hh _ p => by
      obtain ⟨M', e4, e5, e6, e7, e8, e9, e10, e11, rfl, st, _⟩ := p
      exact its_cell (st.old ek)) (fun i e hh x ex p => ?_) fun e hh p => ?_
    · clear g0 st M'
      obtain ⟨M', e4, e5, e6, e7, e8, e9, e10, e11, rfl, st, g0⟩ := p
      have hi := (List.getElem?_eq_some_iff.mp ex).1
      unfold arcsC at ex hi
      rw [List.length_map, List.length_map] at hi
      rw [List.getElem?_map, List.getElem?_map, List.getElem?_eq_getElem hi] at ex
      cases ex
      have xi := hA _ (List.getElem_mem hi)
      rw [fold_take hi]
      generalize as[i] = r at *
      generalize (as.take i).foldl (relax (gt M)) (fun _ _ => none) = U at *
      obtain ⟨rb, erb, rbl⟩ := s.get xi.2
      obtain ⟨kb, _, ab, hkb⟩ := a.get erb
      have gb : ∀ y, (rb[y]?).join = gt M r.b y := fun y => (gt_row erb).symm
      unfold Ar.D
      simp only [Pe.Pw.ws, List.set_cons_zero, List.set_cons_succ, List.length_cons, List.length_nil, List.map_cons, List.map_nil, List.cons_append, List.nil_append, List.replicate_succ, List.replicate_zero, Nat.reduceSub, Nat.reduceAdd, Nat.reduceLT, true_and, and_true, if_true, Bool.false_eq_true, if_false, true_implies, false_implies, forall_const, decide_eq_true_eq, decide_eq_false_iff_not, Bool.not_eq_true', Bool.not_eq_false', reduceCtorEq, lE2]
      refine (st.getR xi.1).mpr ?_
      simp only [Pe.Pw.ws, List.set_cons_zero, List.set_cons_succ, List.length_cons, List.length_nil, List.map_cons, List.map_nil, List.cons_append, List.nil_append, List.replicate_succ, List.replicate_zero, Nat.reduceSub, Nat.reduceAdd, Nat.reduceLT, true_and, and_true, if_true, Bool.false_eq_true, if_false, true_implies, false_implies, forall_const, decide_eq_true_eq, decide_eq_false_iff_not, Bool.not_eq_true', Bool.not_eq_false', reduceCtorEq]
      refine ⟨by omega, ?_⟩
      rw [tn]
      refine w_forN (fun j e hh => ∃ M' e9 e11, e = lE2 m k n h.length (some (.d (.int r.a))) (some (.d (.int r.b))) (some (.d (.int r.w))) (some (.d r.s)) (some (.ref (h.length + r.a))) e9 e10 e11 ∧ St h hh m M' ∧ Inn m r.a j r.w U (gt M r.b) (gt M')) ⟨M', _, _, rfl, st, Inn.zero g0⟩ (fun j e hh hj p => ?_) fun e hh p => ?_
      · clear g0 st M'
        obtain ⟨M', e9, e11, rfl, st, inn⟩ := p
        rw [Int.zero_add]
        have hjm : j < m := by omega
        have ga := inn.at_ xi.1 hjm
        have cont : ∀ e9 e11 hh' M'', St h hh' m M'' → Inn m r.a (j + 1) r.w U (gt M r.b) (gt M'') → ∃ M' e9' e11', lE2 m k n h.length (some (.d (.int r.a))) (some (.d (.int r.b))) (some (.d (.int r.w))) (some (.d r.s)) (some (.ref (h.length + r.a))) e9 e10 e11 = lE2 m k n h.length (some (.d (.int r.a))) (some (.d (.int r.b))) (some (.d (.int r.w))) (some (.d r.s)) (some (.ref (h.length + r.a))) e9' e10 e11' ∧ St h hh' m M' ∧ Inn m r.a (j + 1) r.w U (gt M r.b) (gt M') := fun e9 e11 hh' M'' s' i' => ⟨M'', e9, e11, rfl, s', i'⟩
        have at_ : L2.atI (rowL rb) (j : Int) = some (.d (oi (gt M r.b j))) := by rw [at_row (by omega), gb]
        simp only [Pe.Pw.ws, List.set_cons_zero, List.set_cons_succ, List.length_cons, List.length_nil, List.map_cons, List.map_nil, List.cons_append, List.nil_append, List.replicate_succ, List.replicate_zero, Nat.reduceSub, Nat.reduceAdd, Nat.reduceLT, true_and, and_true, if_true, Bool.false_eq_true, if_false, true_implies, false_implies, forall_const, decide_eq_true_eq, decide_eq_false_iff_not, Bool.not_eq_true', Bool.not_eq_false', reduceCtorEq, lE2, w_ixR (st.mx a).cell ab, w_ixR (st.old hkb) at_]
        cases q1 : gt M r.b j with
        | none =>
          simp only [Pe.Pw.ws, List.set_cons_zero, List.set_cons_succ, List.length_cons, List.length_nil, List.map_cons, List.map_nil, List.cons_append, List.nil_append, List.replicate_succ, List.replicate_zero, Nat.reduceSub, Nat.reduceAdd, Nat.reduceLT, true_and, and_true, if_true, Bool.false_eq_true, if_false, true_implies, false_implies, forall_const, decide_eq_true_eq, decide_eq_false_iff_not, Bool.not_eq_true', Bool.not_eq_false', reduceCtorEq, oi, isNon, Bool.not_true]
          exact cont _ _ _ _ st (inn.keep (by rw [q1]; rfl))
        | some t =>
          simp only [Pe.Pw.ws, List.set_cons_zero, List.set_cons_succ, List.length_cons, List.length_nil, List.map_cons, List.map_nil, List.cons_append, List.nil_append, List.replicate_succ, List.replicate_zero, Nat.reduceSub, Nat.reduceAdd, Nat.reduceLT, true_and, and_true, if_true, Bool.false_eq_true, if_false, true_implies, false_implies, forall_const, decide_eq_true_eq, decide_eq_false_iff_not, Bool.not_eq_true', Bool.not_eq_false', reduceCtorEq, oi, isNon, Bool.not_false, st.rdR xi.1 hjm]
          cases q2 : gt M' r.a j with
          | none =>
            simp only [Pe.Pw.ws, List.set_cons_zero, List.set_cons_succ, List.length_cons, List.length_nil, List.map_cons, List.map_nil, List.cons_append, List.nil_append, List.replicate_succ, List.replicate_zero, Nat.reduceSub, Nat.reduceAdd, Nat.reduceLT, true_and, and_true, if_true, Bool.false_eq_true, if_false, true_implies, false_implies, forall_const, decide_eq_true_eq, decide_eq_false_iff_not, Bool.not_eq_true', Bool.not_eq_false', reduceCtorEq, oi, isNon]
            refine st.wrR (v := some (r.w + t)) xi.1 hjm fun hh' M'' st' ge => ?_
            refine cont _ _ _ _ st' ?_
            have := inn.set
            rw [q1, ← ga, q2] at this
            rw [ge]
            exact this
          | some u =>
            simp only [Pe.Pw.ws, List.set_cons_zero, List.set_cons_succ, List.length_cons, List.length_nil, List.map_cons, List.map_nil, List.cons_append, List.nil_append, List.replicate_succ, List.replicate_zero, Nat.reduceSub, Nat.reduceAdd, Nat.reduceLT, true_and, and_true, if_true, Bool.false_eq_true, if_false, true_implies, false_implies, forall_const, decide_eq_true_eq, decide_eq_false_iff_not, Bool.not_eq_true', Bool.not_eq_false', reduceCtorEq, oi, isNon, st.rdR xi.1 hjm, q2]
            refine ⟨fun z => ?_, fun z => ?_⟩
            · refine st.wrR (v := some (r.w + t)) xi.1 hjm fun hh' M'' st' ge => ?_
              refine cont _ _ _ _ st' ?_
              have := inn.set
              rw [q1, ← ga, q2] at this
              rw [ge]
              unfold sh1 at this
              dsimp only at this
              rw [if_pos z] at this
              exact this
            · refine cont _ _ _ _ st (inn.keep ?_)
              rw [q1, ← ga, q2]
              unfold sh1
              dsimp only
              rw [if_neg z]
      · obtain ⟨M', e9, e11, rfl, st, inn⟩ := p
        simp only [Pe.Pw.ws, List.set_cons_zero, List.set_cons_succ, List.length_cons, List.length_nil, List.map_cons, List.map_nil, List.cons_append, List.nil_append, List.replicate_succ, List.replicate_zero, Nat.reduceSub, Nat.reduceAdd, Nat.reduceLT, true_and, and_true, if_true, Bool.false_eq_true, if_false, true_implies, false_implies, forall_const, decide_eq_true_eq, decide_eq_false_iff_not, Bool.not_eq_true', Bool.not_eq_false', reduceCtorEq]
        refine ⟨M', _, _, _, _, _, _, _, _, rfl, st, fun x y hx hy => ?_⟩
        rw [inn x y hx hy]
        unfold relax
        by_cases hxa : x = r.a
        · rw [if_pos ⟨hxa, by omega⟩, if_pos hxa]
        · rw [if_neg fun c => hxa c.1, if_neg hxa]
    · obtain ⟨M', e4, e5, e6, e7, e8, e9, e10, e11, rfl, st, g0⟩ := p
      refine ⟨M', _, _, _, _, _, _, _, _, rfl, st, fun x y hx hy => ?_⟩
      rw [g0 x y hx hy]
      unfold arcsC
      rw [List.length_map, List.length_map, List.take_length]
      rfl
  rintro _ hh ⟨M', e4, e5, e6, e7, e8, e9, e10, e11, rfl, st, g0⟩
  simp only [Pe.Pw.ws, List.set_cons_zero, List.set_cons_succ, List.length_cons, List.length_nil, List.map_cons, List.map_nil, List.cons_append, List.nil_append, List.replicate_succ, List.replicate_zero, Nat.reduceSub, Nat.reduceAdd, Nat.reduceLT, true_and, and_true, if_true, Bool.false_eq_true, if_false, true_implies, false_implies, forall_const, decide_eq_true_eq, decide_eq_false_iff_not, Bool.not_eq_true', Bool.not_eq_false', reduceCtorEq, lE2]
  rw [lv_mx st.at_ own_new, st.pre]
  exact q M' st.sq g0
end
end Pe.Pw
/-! Pe: first_names, _law_names. -/
namespace Pe.Pw
open PySem
/-- the cell t holds the tables of the ways of 0 .. K arcs -/
structure Wt (hh : Hs) (t : Nat) (as : List Ar) (m K : Nat) (os : List Nat) : Prop where
  cell : hh[t]? = some (.lst (os.map .ref))
  len : os.length = K + 1
  tab : ∀ k o, os[k]? = some o → ∃ M ns, MxAt hh o M ns ∧ Sq m M ∧ ∀ x y, x < m → y < m → gt M x y = wkT as k x y
section
variable {FT : List Fn} {h : Hs} {Q : PV → Hs → Prop} {n d f t m K : Nat} {as : List Ar} {os : List Nat}
theorem Wt.keep {h' : Hs} (w : Wt h t as m K os) (k : ∀ (i : Nat) (c : Cell), h[i]? = some c → h'[i]? = some c) : Wt h' t as m K os :=
  ⟨k _ _ w.cell, w.len, fun i o e => by
    obtain ⟨M, ns, a, s, g⟩ := w.tab i o e
    exact ⟨M, ns, a.keep fun i c e _ => k i c e, s, g⟩⟩
theorem Wt.app {es : Hs} (w : Wt h t as m K os) : Wt (h ++ es) t as m K os := w.keep fun i c e => by
  rw [List.getElem?_append_left (List.getElem?_eq_some_iff.mp e).1]
  exact e
theorem Wt.rd (w : Wt h t as m K os) {k x y : Nat} (hk : k ≤ K) (hx : x < m) (hy : y < m) {R : PV → Hs → Prop} : (Wp (idxV (.ref t) (.d (.int (k : Nat)))) h fun v h1 => Wp (idxV v (.d (.int (x : Nat)))) h1 fun v h1 => Wp (idxV v (.d (.int (y : Nat)))) h1 R) ↔ R (.d (oi (wkT as k x y))) h := by
  have hl := w.len
  have e : os[k]? = some os[k] := List.getElem?_eq_getElem (by omega)
  obtain ⟨M, ns, a, s, g⟩ := w.tab k _ e
  have ea : L2.atI (os.map PV.ref) (k : Int) = some (.ref os[k]) := by
    rw [atI_map, atI_nat, e]
    rfl
  rw [w_ixR w.cell ea, a.rd s hx hy, g x y hx hy]
theorem pick_step {F : Clo.Tb} {now goal : Nat} {L : Int} {q : Nat} {r : Ar} (e : as[q]? = some r) (no : ∀ i (x : Ar), i < q → as[i]? = some x → fitA F now goal L x = false) (fr : fitA F now goal L r = true) : pickA as F now goal L = some r := by
  unfold pickA
  rw [List.find?_eq_some_iff_getElem]
  have hq := List.getElem?_eq_some_iff.mp e
  have hq1 := hq.1
  refine ⟨fr, q, hq.1, hq.2, fun j hj => ?_⟩
  rw [no j _ hj (List.getElem?_eq_getElem (by omega))]
  rfl
theorem pick_none {F : Clo.Tb} {now goal : Nat} {L : Int} (no : ∀ i (x : Ar), i < as.length → as[i]? = some x → fitA F now goal L x = false) : pickA as F now goal L = none := by
  unfold pickA
  rw [List.find?_eq_none]
  intro x hx
  obtain ⟨i, hi, e⟩ := List.getElem_of_mem hx
  rw [no i x hi (by rw [List.getElem?_eq_getElem hi, e])]
  exact Bool.false_ne_true
theorem namesP_succ {k now goal : Nat} {L : Int} : namesP as (k + 1) now goal L = match pickA as (wkT as k) now goal L with
    | some r => r :: namesP as k r.b goal (L - r.w)
    | none => namesP as k now goal L := rfl
def lnamesB : List S := [.asg (.nm 6) (.lst []), .asg (.nm 7) (.var 2), .asg (.nm 8) (.var 5), .fr (.nm 9) (.rng1 (.var 4)) [.fr (.tup [(.nm 10), (.nm 11), (.nm 12), (.nm 13)]) (.seq (.var 0)) [.asg (.nm 14) (.idx (.idx (.idx (.var 1) (.bin .sub (.bin .sub (.var 4) (.cst (.int 1))) (.var 9))) (.var 11)) (.var 3)), .ife (.an (.cmp .eq (.var 10) (.var 7)) (.an (.cmp .notN (.var 14) (.cst .non)) (.cmp .lt (.bin .add (.var 12) (.var 14)) (.var 8)))) [.ex (.mth .append (.var 6) [(.var 13)]), .asg (.nm 7) (.var 11), .asg (.nm 8) (.bin .sub (.var 8) (.var 12)), .brk] []]], .ret (.blt .tuple [(.var 6)])]
theorem lnames_w {ka b0 g0 K' : Nat} {L : Int} (is : Is FT f 6 15 lnamesB) (ek : h[ka]? = some (.lst (arcsC as))) (w : Wt h t as m K os) (hA : ArsIn m as) (hK : K' ≤ 1000) (hK' : K' ≤ K) (hb : b0 < m) (hg : g0 < m) (q : Q (.d (.tup ((namesP as K' b0 g0 L).map Ar.s))) h) : Wp (cal FT (d + 1) f [.ref ka, .ref t, .d (.int b0), .d (.int g0), .d (.int K'), .d (.int L)]) h Q := by
  refine is.call rfl ?_
  unfold lnamesB
  have hz : sizeLine = 2 ^ 24 := rfl
  have ol : (os.map PV.ref).length = K + 1 := by rw [List.length_map, w.len]
  refine w_cut (fun e hh => e = [some (.ref ka), some (.ref t), some (.d (.int b0)), some (.d (.int g0)), some (.d (.int (K' : Nat))), some (.d (.int L)), some (.ref h.length), none, none, none, none, none, none, none, none] ∧ hh = h ++ [.lst (([] : List D).map .d)]) ?_ ?_
  · simp only [Pe.Pw.ws, List.set_cons_zero, List.set_cons_succ, List.length_cons, List.length_nil, List.map_cons, List.map_nil, List.cons_append, List.nil_append, List.replicate_succ, List.replicate_zero, Nat.reduceSub, Nat.reduceAdd, Nat.reduceLT, true_and, and_true, if_true, Bool.false_eq_true, if_false, true_implies, false_implies, forall_const, decide_eq_true_eq, decide_eq_false_iff_not, Bool.not_eq_true', Bool.not_eq_false', reduceCtorEq]
    exact Nat.zero_le _
  rintro _ _ ⟨rfl, rfl⟩
  refine w_cut (fun e hh => e = [some (.ref ka), some (.ref t), some (.d (.int b0)), some (.d (.int g0)), some (.d (.int (K' : Nat))), some (.d (.int L)), some (.ref h.length), some (.d (.int b0)), none, none, none, none, none, none, none] ∧ hh = h ++ [.lst (([] : List D).map .d)]) ?_ ?_
  · simp only [Pe.Pw.ws, List.set_cons_zero, List.set_cons_succ, List.length_cons, List.length_nil, List.map_cons, List.map_nil, List.cons_append, List.nil_append, List.replicate_succ, List.replicate_zero, Nat.reduceSub, Nat.reduceAdd, Nat.reduceLT, true_and, and_true, if_true, Bool.false_eq_true, if_false, true_implies, false_implies, forall_const, decide_eq_true_eq, decide_eq_false_iff_not, Bool.not_eq_true', Bool.not_eq_false', reduceCtorEq]
  rintro _ _ ⟨rfl, rfl⟩
  refine w_cut (fun e hh => e = [some (.ref ka), some (.ref t), some (.d (.int b0)), some (.d (.int g0)), some (.d (.int (K' : Nat))), some (.d (.int L)), some (.ref h.length), some (.d (.int b0)), some (.d (.int L)), none, none, none, none, none, none] ∧ hh = h ++ [.lst (([] : List D).map .d)]) ?_ ?_
  · simp only [Pe.Pw.ws, List.set_cons_zero, List.set_cons_succ, List.length_cons, List.length_nil, List.map_cons, List.map_nil, List.cons_append, List.nil_append, List.replicate_succ, List.replicate_zero, Nat.reduceSub, Nat.reduceAdd, Nat.reduceLT, true_and, and_true, if_true, Bool.false_eq_true, if_false, true_implies, false_implies, forall_const, decide_eq_true_eq, decide_eq_false_iff_not, Bool.not_eq_true', Bool.not_eq_false', reduceCtorEq]
  rintro _ _ ⟨rfl, rfl⟩
  let P : Nat → Env → Hs → Prop := fun i e hh => ∃ (acc : List D) (now : Nat) (left : Int) (e8 e9 e10 e11 e12 e13 : Option PV), now < m ∧ acc.length ≤ i ∧ acc ++ (namesP as (K' - i) now g0 left).map Ar.s = (namesP as K' b0 g0 L).map Ar.s ∧
    e = [some (.ref ka), some (.ref t), some (.d (.int b0)), some (.d (.int g0)), some (.d (.int (K' : Nat))), some (.d (.int L)), some (.ref h.length), some (.d (.int now)), some (.d (.int left)), e8, e9, e10, e11, e12, e13] ∧ hh = h ++ [.lst (acc.map .d)]
  refine w_cut (P K') ?_ ?_
  · simp only [Pe.Pw.ws, List.set_cons_zero, List.set_cons_succ, List.length_cons, List.length_nil, List.map_cons, List.map_nil, List.cons_append, List.nil_append, List.replicate_succ, List.replicate_zero, Nat.reduceSub, Nat.reduceAdd, Nat.reduceLT, true_and, and_true, if_true, Bool.false_eq_true, if_false, true_implies, false_implies, forall_const, decide_eq_true_eq, decide_eq_false_iff_not, Bool.not_eq_true', Bool.not_eq_false', reduceCtorEq]
    refine ⟨by omega, ?_⟩
    rw [show ((K' : Int) - 0).toNat = K' by omega]
    refine w_forN P ⟨[], b0, L, _, _, _, _, _, _, hb, Nat.le_refl _, rfl, rfl, rfl⟩ (fun i e hh hi p => ?_) fun e hh p => ?_
    · obtain ⟨acc, now, left, e8, e9, e10, e11, e12, e13, hn, la, inv, rfl, rfl⟩ := p
      obtain ⟨k, hk⟩ : ∃ k, K' - i = k + 1 := ⟨K' - i - 1, by omega⟩
      have hk2 : K' - (i + 1) = k := by omega
      have ki : ((K' : Int) - 1 - (0 + (i : Int))) = (k : Nat) := by omega
      rw [hk] at inv
      rw [namesP_succ] at inv
      refine w_nm.mpr ⟨(by decide : 9 < 15), ?_⟩
      refine w_cut (P (i + 1)) ?_ ?_
      · simp only [Pe.Pw.ws, List.set_cons_zero, List.set_cons_succ, List.length_cons, List.length_nil, List.map_cons, List.map_nil, List.cons_append, List.nil_append, List.replicate_succ, List.replicate_zero, Nat.reduceSub, Nat.reduceAdd, Nat.reduceLT, true_and, and_true, if_true, Bool.false_eq_true, if_false, true_implies, false_implies, forall_const, decide_eq_true_eq, decide_eq_false_iff_not, Bool.not_eq_true', Bool.not_eq_false', reduceCtorEq]
        refine w_for (arcsC as) (fun j e hh => (∀ i x, i < j → as[i]? = some x → fitA (wkT as k) now g0 left x = false) ∧ ∃ e9 e10 e11 e12 e13, e = [some (.ref ka), some (.ref t), some (.d (.int b0)), some (.d (.int g0)), some (.d (.int (K' : Nat))), some (.d (.int L)), some (.ref h.length), some (.d (.int now)), some (.d (.int left)), some (.d (.int (0 + (i : Int)))), e9, e10, e11, e12, e13] ∧ hh = h ++ [.lst (acc.map .d)])
          ⟨fun i _ hi => absurd hi (Nat.not_lt_zero i), _, _, _, _, _, rfl, rfl⟩ (fun j e hh _ p => by
            obtain ⟨_, _, _, _, _, _, rfl, rfl⟩ := p
            exact its_cell (by rw [List.getElem?_append_left (List.getElem?_eq_some_iff.mp ek).1]; exact ek)) (fun j e hh x ex p => ?_) fun e hh p => ?_
        · obtain ⟨no, e9, e10, e11, e12, e13, rfl, rfl⟩ := p
          have hj := (List.getElem?_eq_some_iff.mp ex).1
          unfold arcsC at ex hj
          rw [List.length_map, List.length_map] at hj
          have er : as[j]? = some as[j] := List.getElem?_eq_getElem hj
          rw [List.getElem?_map, List.getElem?_map, er] at ex
          cases ex
          have xi := hA _ (List.getElem_mem hj)
          generalize as[j] = r at *
          have skip : fitA (wkT as k) now g0 left r = false → ∀ i x, i < j + 1 → as[i]? = some x → fitA (wkT as k) now g0 left x = false := fun hr i x hi e => by
            by_cases h1 : i < j
            · exact no i x h1 e
            · obtain rfl : i = j := by omega
              rw [er] at e
              cases e
              exact hr
          unfold Ar.D
          simp only [Pe.Pw.ws, List.set_cons_zero, List.set_cons_succ, List.length_cons, List.length_nil, List.map_cons, List.map_nil, List.cons_append, List.nil_append, List.replicate_succ, List.replicate_zero, Nat.reduceSub, Nat.reduceAdd, Nat.reduceLT, true_and, and_true, if_true, Bool.false_eq_true, if_false, true_implies, false_implies, forall_const, decide_eq_true_eq, decide_eq_false_iff_not, Bool.not_eq_true', Bool.not_eq_false', reduceCtorEq]
          rw [ki]
          refine (w.app.rd (k := k) (by omega) xi.2 hg).mpr ?_
          simp only [Pe.Pw.ws, List.set_cons_zero, List.set_cons_succ, List.length_cons, List.length_nil, List.map_cons, List.map_nil, List.cons_append, List.nil_append, List.replicate_succ, List.replicate_zero, Nat.reduceSub, Nat.reduceAdd, Nat.reduceLT, true_and, and_true, if_true, Bool.false_eq_true, if_false, true_implies, false_implies, forall_const, decide_eq_true_eq, decide_eq_false_iff_not, Bool.not_eq_true', Bool.not_eq_false', reduceCtorEq]
          refine ⟨fun z => ?_, fun z => ?_⟩
          · have z : r.a = now := by omega
            cases q1 : wkT as k r.b g0 with
            | none =>
              simp only [Pe.Pw.ws, List.set_cons_zero, List.set_cons_succ, List.length_cons, List.length_nil, List.map_cons, List.map_nil, List.cons_append, List.nil_append, List.replicate_succ, List.replicate_zero, Nat.reduceSub, Nat.reduceAdd, Nat.reduceLT, true_and, and_true, if_true, Bool.false_eq_true, if_false, true_implies, false_implies, forall_const, decide_eq_true_eq, decide_eq_false_iff_not, Bool.not_eq_true', Bool.not_eq_false', reduceCtorEq, oi, isNon, Bool.not_true]
              exact ⟨skip (by unfold fitA; rw [q1, Bool.and_false]), _, _, _, _, _, rfl⟩
            | some u =>
              simp only [Pe.Pw.ws, List.set_cons_zero, List.set_cons_succ, List.length_cons, List.length_nil, List.map_cons, List.map_nil, List.cons_append, List.nil_append, List.replicate_succ, List.replicate_zero, Nat.reduceSub, Nat.reduceAdd, Nat.reduceLT, true_and, and_true, if_true, Bool.false_eq_true, if_false, true_implies, false_implies, forall_const, decide_eq_true_eq, decide_eq_false_iff_not, Bool.not_eq_true', Bool.not_eq_false', reduceCtorEq, oi, isNon, Bool.not_false]
              refine ⟨fun z2 => ?_, fun z2 => ?_⟩
              · have fr : fitA (wkT as k) now g0 left r = true := by
                  unfold fitA
                  rw [q1, decide_eq_true z]
                  simp
                  omega
                rw [pick_step er no fr] at inv
                simp only [Pe.Pw.ws, List.set_cons_zero, List.set_cons_succ, List.length_cons, List.length_nil, List.map_cons, List.map_nil, List.cons_append, List.nil_append, List.replicate_succ, List.replicate_zero, Nat.reduceSub, Nat.reduceAdd, Nat.reduceLT, true_and, and_true, if_true, Bool.false_eq_true, if_false, true_implies, false_implies, forall_const, decide_eq_true_eq, decide_eq_false_iff_not, Bool.not_eq_true', Bool.not_eq_false', reduceCtorEq, w_app0, List.length_map]
                refine ⟨by omega, acc ++ [r.s], r.b, left - r.w, _, _, _, _, _, _, xi.2, by simp; omega, ?_, rfl, by simp⟩
                rw [hk2, ← inv]
                simp
              · exact ⟨skip (by unfold fitA; rw [q1, decide_eq_true z]; simp; omega), _, _, _, _, _, rfl⟩
          · exact ⟨skip (by unfold fitA; rw [decide_eq_false (by omega), Bool.false_and]), _, _, _, _, _, rfl⟩
        · obtain ⟨no, e9, e10, e11, e12, e13, rfl, rfl⟩ := p
          unfold arcsC at no
          rw [List.length_map, List.length_map] at no
          rw [pick_none no] at inv
          exact ⟨acc, now, left, _, _, _, _, _, _, hn, by omega, by rw [hk2]; exact inv, rfl, rfl⟩
      rintro e hh p
      simp only [Pe.Pw.ws, List.set_cons_zero, List.set_cons_succ, List.length_cons, List.length_nil, List.map_cons, List.map_nil, List.cons_append, List.nil_append, List.replicate_succ, List.replicate_zero, Nat.reduceSub, Nat.reduceAdd, Nat.reduceLT, true_and, and_true, if_true, Bool.false_eq_true, if_false, true_implies, false_implies, forall_const, decide_eq_true_eq, decide_eq_false_iff_not, Bool.not_eq_true', Bool.not_eq_false', reduceCtorEq]
      exact p
    · exact p
  rintro e hh ⟨acc, now, left, e8, e9, e10, e11, e12, e13, hn, la, inv, rfl, rfl⟩
  rw [Nat.sub_self] at inv
  have inv : acc ++ [] = (namesP as K' b0 g0 L).map Ar.s := inv
  rw [List.append_nil] at inv
  simp only [Pe.Pw.ws, List.set_cons_zero, List.set_cons_succ, List.length_cons, List.length_nil, List.map_cons, List.map_nil, List.cons_append, List.nil_append, List.replicate_succ, List.replicate_zero, Nat.reduceSub, Nat.reduceAdd, Nat.reduceLT, true_and, and_true, if_true, Bool.false_eq_true, if_false, true_implies, false_implies, forall_const, decide_eq_true_eq, decide_eq_false_iff_not, Bool.not_eq_true', Bool.not_eq_false', reduceCtorEq, w_tupR gA0, mkTup_ds, List.take_left]
  rw [inv]
  exact q
end
end Pe.Pw
/-! Pe: first_way. -/
namespace Pe.Pw
open PySem
section
variable {FT : List Fn} {h : Hs} {Q : PV → Hs → Prop} {n d f t m K : Nat} {as : List Ar} {os : List Nat} {M : Mx}
theorem w_appV {fb k : Nat} {xs : List PV} {v v' : PV} {h1 : Hs} (ec : conv v h = (v', h1)) (e : h1[k]? = some (.lst xs)) (so : storeOk fb k v' = true) (z : xs.length < sizeLine) : Wp (mthV fb .append (.ref k) [v]) h Q ↔ Q (.d .non) (h1.set k (.lst (xs ++ [v']))) := by
  refine w_iff ?_
  show (match conv v h with
    | (v', h1) => match h1[k]? with
      | some (.lst xs) => if storeOk fb k v' && decide (xs.length < sizeLine) then some (PV.d .non, h1.set k (.lst (xs ++ [v']))) else none
      | none => none) = _
  rw [ec]
  dsimp only
  rw [e]
  dsimp only
  rw [so, decide_eq_true z]
  rfl
/-- the tables while they are made -/
structure Wb (hh : Hs) (t : Nat) (as : List Ar) (m K : Nat) (os : List Nat) : Prop where
  cell : hh[t]? = some (.lst (os.map .ref))
  len : os.length = K + 1
  tab : ∀ k o, os[k]? = some o → ∃ M ns, MxAt hh o M ns ∧ Sq m M ∧ (∀ x y, x < m → y < m → gt M x y = wkT as k x y) ∧ o ≠ t ∧ t ∉ ns
theorem Wb.wt (w : Wb h t as m K os) : Wt h t as m K os := ⟨w.cell, w.len, fun k o e => by
  obtain ⟨M, ns, a, s, g, _⟩ := w.tab k o e
  exact ⟨M, ns, a, s, g⟩⟩
theorem Wb.push (w : Wb h t as m K os) (s : Sq m M) (g : ∀ x y, x < m → y < m → gt M x y = wkT as (K + 1) x y) :
    Wb ((h ++ M.map rowC ++ [Cell.lst ((List.range' h.length M.length).map .ref)]).set t (.lst ((os ++ [h.length + M.length]).map .ref))) t as m (K + 1) (os ++ [h.length + M.length]) := by
  have ht := (List.getElem?_eq_some_iff.mp w.cell).1
  have other : ∀ (i : Nat) (c : Cell), i ≠ t → (h ++ M.map rowC ++ [Cell.lst ((List.range' h.length M.length).map .ref)])[i]? = some c → ((h ++ M.map rowC ++ [Cell.lst ((List.range' h.length M.length).map .ref)]).set t (.lst ((os ++ [h.length + M.length]).map .ref)))[i]? = some c := fun i c hi e => by
    rw [List.getElem?_set_ne (Ne.symm hi)]
    exact e
  refine ⟨List.getElem?_set_self (by simp only [List.length_append]; omega), by simp [w.len], fun k o e => ?_⟩
  by_cases hk : k < os.length
  · rw [List.getElem?_append_left hk] at e
    obtain ⟨M2, ns, a, s2, g2, n1, n2⟩ := w.tab k o e
    refine ⟨M2, ns, a.keep fun i c ei hi => other i c (fun z => ?_) ?_, s2, g2, n1, n2⟩
    · rcases hi with hi | hi
      · exact n1 (hi ▸ z)
      · exact n2 (z ▸ hi)
    · rw [List.append_assoc, List.getElem?_append_left (List.getElem?_eq_some_iff.mp ei).1]
      exact ei
  · have hk2 := (List.getElem?_eq_some_iff.mp e).1
    have wl := w.len
    rw [List.length_append, List.length_singleton] at hk2
    obtain rfl : k = K + 1 := by omega
    rw [List.getElem?_append_right (by omega), show K + 1 - os.length = 0 by omega] at e
    cases e
    have tn : t ∉ List.range' h.length M.length := fun z => by
      have := List.mem_range'_1.mp z
      omega
    refine ⟨M, List.range' h.length M.length, mx_new.keep fun i c ei hi => other i c (fun z => ?_) ei, s, g, by omega, tn⟩
    subst z
    rcases hi with hi | hi
    · omega
    · exact tn hi
theorem relax_congr {T T' U U' : Clo.Tb} {r : Ar} (hr : r.b < m) (h : ∀ x y, x < m → y < m → T x y = T' x y) (g : ∀ x y, x < m → y < m → U x y = U' x y) : ∀ x y, x < m → y < m → relax T U r x y = relax T' U' r x y := fun x y hx hy => by
  unfold relax
  rw [g x y hx hy, h r.b y hr hy]
theorem fold_congr {T T' : Clo.Tb} (h : ∀ x y, x < m → y < m → T x y = T' x y) : ∀ (as : List Ar) (U U' : Clo.Tb), ArsIn m as → (∀ x y, x < m → y < m → U x y = U' x y) → ∀ x y, x < m → y < m → as.foldl (relax T) U x y = as.foldl (relax T') U' x y
  | [], _, _, _, g => g
  | r :: as, _, _, hA, g => fold_congr h as _ _ (fun x hx => hA x (List.mem_cons_of_mem _ hx)) (relax_congr (hA r List.mem_cons_self).2 h g)
theorem long_congr {T T' : Clo.Tb} (hA : ArsIn m as) (h : ∀ x y, x < m → y < m → T x y = T' x y) {x y : Nat} (hx : x < m) (hy : y < m) : longT as T x y = longT as T' x y :=
  fold_congr h as _ _ hA (fun _ _ _ _ => rfl) x y hx hy
end
end Pe.Pw
/-! Pe: _law_walks. -/
namespace Pe.Pw
open PySem
abbrev Tc := Nat × List Nat × Mx
/-- own tables in own cells -/
structure Wc (fb : Nat) (hh : Hs) (t m : Nat) (ts : List Tc) : Prop where
  cell : hh[t]? = some (.lst ((ts.map fun x => x.1).map .ref))
  tab : ∀ x ∈ ts, MxAt hh x.1 x.2.2 x.2.1 ∧ Sq m x.2.2
  ft : fb ≤ t
  fs : ∀ x ∈ ts, fb ≤ x.1 ∧ ∀ j ∈ x.2.1, fb ≤ j
  nd : (t :: ts.flatMap fun x => x.1 :: x.2.1).Nodup
section
variable {FT : List Fn} {h : Hs} {Q : PV → Hs → Prop} {n d f t m K fb : Nat} {as : List Ar} {os : List Nat} {M : Mx} {ts : List Tc}
theorem MxAt.lt (a : MxAt h n M os) (s : Sq m M) : n < h.length ∧ ∀ j ∈ os, j < h.length := by
  refine ⟨(List.getElem?_eq_some_iff.mp a.cell).1, fun j hj => ?_⟩
  obtain ⟨i, hi, e⟩ := List.getElem_of_mem hj
  have hi2 : i < M.length := by rw [← a.len]; exact hi
  exact (List.getElem?_eq_some_iff.mp (a.rows i j M[i] (by rw [List.getElem?_eq_getElem hi, e]) (List.getElem?_eq_getElem hi2))).1
theorem Wc.not_t (w : Wc fb h t m ts) {x : Tc} (hx : x ∈ ts) : x.1 ≠ t ∧ t ∉ x.2.1 := by
  have := (List.nodup_cons.mp w.nd).1
  refine ⟨fun z => this (List.mem_flatMap.mpr ⟨x, hx, ?_⟩), fun z => this (List.mem_flatMap.mpr ⟨x, hx, List.mem_cons_of_mem _ z⟩)⟩
  rw [z]
  exact List.mem_cons_self
theorem Wc.wb (w : Wc fb h t m ts) (hl : ts.length = K + 1) (g : ∀ k x, ts[k]? = some x → ∀ i j, i < m → j < m → gt x.2.2 i j = wkT as k i j) : Wb h t as m K (ts.map fun x => x.1) := by
  refine ⟨w.cell, by rw [List.length_map, hl], fun k o e => ?_⟩
  rw [List.getElem?_map] at e
  cases q : ts[k]? with
  | none => rw [q] at e; cases e
  | some x =>
    rw [q] at e
    cases e
    have hx := List.mem_of_getElem? q
    have nt := w.not_t hx
    exact ⟨x.2.2, x.2.1, (w.tab x hx).1, (w.tab x hx).2, g k x q, nt.1, nt.2⟩
theorem Wc.push (w : Wc fb h t m ts) (s : Sq m M) : Wc fb ((h ++ M.map rowC ++ [Cell.lst ((List.range' h.length M.length).map .ref)]).set t (.lst (((ts.map fun x => x.1).map .ref) ++ [.ref (h.length + M.length)]))) t m (ts ++ [(h.length + M.length, List.range' h.length M.length, M)]) := by
  have ht := (List.getElem?_eq_some_iff.mp w.cell).1
  have fb' := w.ft
  have other : ∀ (i : Nat) (c : Cell), i ≠ t → (h ++ M.map rowC ++ [Cell.lst ((List.range' h.length M.length).map .ref)])[i]? = some c → ((h ++ M.map rowC ++ [Cell.lst ((List.range' h.length M.length).map .ref)]).set t (.lst (((ts.map fun x => x.1).map .ref) ++ [.ref (h.length + M.length)])))[i]? = some c := fun i c hi e => by
    rw [List.getElem?_set_ne (Ne.symm hi)]
    exact e
  have tn : t ∉ List.range' h.length M.length := fun z => by
    have := List.mem_range'_1.mp z
    omega
  refine ⟨?_, fun x hx => ?_, w.ft, fun x hx => ?_, ?_⟩
  · rw [List.getElem?_set_self (by simp only [List.length_append]; omega)]
    simp
  · rcases List.mem_append.mp hx with hx | hx
    · have nt := w.not_t hx
      refine ⟨(w.tab x hx).1.keep fun i c ei hi => other i c (fun z => ?_) ?_, (w.tab x hx).2⟩
      · rcases hi with hi | hi
        · exact nt.1 (hi ▸ z)
        · exact nt.2 (z ▸ hi)
      · rw [List.append_assoc, List.getElem?_append_left (List.getElem?_eq_some_iff.mp ei).1]
        exact ei
    · rw [List.mem_singleton.mp hx]
      refine ⟨mx_new.keep fun i c ei hi => other i c (fun z => ?_) ei, s⟩
      subst z
      rcases hi with hi | hi
      · omega
      · exact tn hi
  · rcases List.mem_append.mp hx with hx | hx
    · exact w.fs x hx
    · rw [List.mem_singleton.mp hx]
      refine ⟨by dsimp only; omega, fun j hj => ?_⟩
      have := List.mem_range'_1.mp hj
      omega
  · have bd : ∀ y ∈ t :: ts.flatMap (fun x => x.1 :: x.2.1), y < h.length := fun y hy => by
      rcases List.mem_cons.mp hy with rfl | hy
      · exact ht
      · obtain ⟨x, hx, hy⟩ := List.mem_flatMap.mp hy
        have lt := (w.tab x hx).1.lt (w.tab x hx).2
        rcases List.mem_cons.mp hy with rfl | hy
        · exact lt.1
        · exact lt.2 y hy
    rw [List.flatMap_append, ← List.cons_append, List.nodup_append]
    have on := (own_new (h := h) (k := M.length)).nd
    refine ⟨w.nd, by simpa using on, fun a ha b hb => ?_⟩
    have := bd a ha
    simp only [List.flatMap_cons, List.flatMap_nil, List.append_nil, List.mem_cons] at hb
    rcases hb with rfl | hb
    · omega
    · have := List.mem_range'_1.mp hb
      omega
theorem mapRefs_tabs : ∀ (ts : List Tc), (∀ x ∈ ts, MxAt h x.1 x.2.2 x.2.1 ∧ Sq m x.2.2) → (∀ x ∈ ts, fb ≤ x.1 ∧ ∀ j ∈ x.2.1, fb ≤ j) → mapRefs (resR fb h 3) ((ts.map fun x => x.1).map .ref) = some (ts.map fun x => mxV x.2.2, ts.flatMap fun x => x.1 :: x.2.1)
  | [], _, _ => rfl
  | x :: ts, ht, hf => by
    have ih := mapRefs_tabs ts (fun y hy => ht y (List.mem_cons_of_mem _ hy)) fun y hy => hf y (List.mem_cons_of_mem _ hy)
    have a := (ht x List.mem_cons_self).1
    have ff := hf x List.mem_cons_self
    have one : mapRef (resR fb h 3) (.ref x.1) = some (mxV x.2.2, x.1 :: x.2.1) := by
      show (if x.1 < fb then some (PV.ref x.1, []) else match h[x.1]? with
        | some (.lst xs) => match mapRefs (resR fb h 2) xs with
          | some (ys, l) => some (PV.tl ys, x.1 :: l)
          | none => none
        | none => none) = _
      rw [if_neg (by omega), a.cell]
      dsimp only
      rw [mapRefs_rows x.2.1 x.2.2 a.len ff.2 a.rows]
      rfl
    show (match mapRef (resR fb h 3) (.ref x.1), mapRefs (resR fb h 3) ((ts.map fun x => x.1).map PV.ref) with
      | some (y, l), some (ys, l2) => some (y :: ys, l ++ l2)
      | _, _ => none) = _
    rw [one, ih]
    rfl
theorem Wc.lv (w : Wc fb h t m ts) : Lv fb Q (.rt (.ref t)) h ↔ Q (.tl (ts.map fun x => mxV x.2.2)) (h.take fb) := by
  have e : leave fb (.ref t) h = some (.tl (ts.map fun x => mxV x.2.2), h.take fb) := by
    unfold leave
    have : mapRef (resR fb h 4) (.ref t) = some (.tl (ts.map fun x => mxV x.2.2), t :: ts.flatMap fun x => x.1 :: x.2.1) := by
      show (if t < fb then some (PV.ref t, []) else match h[t]? with
        | some (.lst xs) => match mapRefs (resR fb h 3) xs with
          | some (ys, l) => some (PV.tl ys, t :: l)
          | none => none
        | none => none) = _
      rw [if_neg (by have := w.ft; omega), w.cell]
      dsimp only
      rw [mapRefs_tabs ts w.tab w.fs]
    rw [this]
    dsimp only
    rw [if_pos w.nd]
  exact ⟨fun ⟨_, _, e2, q⟩ => by rw [e] at e2; cases e2; exact q, fun q => ⟨_, _, e, q⟩⟩
/-- tables come in -/
theorem convs_tabs : ∀ (Ms : List Mx) (h : Hs), ∃ (os : List Nat) (h' : Hs), convs (Ms.map mxV) h = (os.map .ref, h') ∧ (∃ es, h' = h ++ es) ∧ os.length = Ms.length ∧ ∀ (k o : Nat) (M : Mx), os[k]? = some o → Ms[k]? = some M → ∃ ns, MxAt h' o M ns
  | [], h => ⟨[], h, rfl, ⟨[], (List.append_nil h).symm⟩, rfl, fun k o M e _ => by cases e⟩
  | M :: Ms, h => by
    obtain ⟨os, h', e, ⟨es, he⟩, l, a⟩ := convs_tabs Ms (h ++ M.map rowC ++ [.lst ((List.range' h.length M.length).map .ref)])
    refine ⟨(h.length + M.length) :: os, h', ?_, ⟨M.map rowC ++ [.lst ((List.range' h.length M.length).map .ref)] ++ es, by rw [he]; simp⟩, by simp [l], fun k o M2 e1 e2 => ?_⟩
    · rw [List.map_cons, convs_cons, conv_mx]
      dsimp only
      rw [e]
      rfl
    · cases k with
      | zero =>
        cases e1
        cases e2
        rw [he]
        exact ⟨_, MxAt.app mx_new⟩
      | succ k => exact a k o M2 (by simpa using e1) (by simpa using e2)
theorem conv_tabs {Ms : List Mx} (hl : Ms.length = K + 1) (sq : ∀ M ∈ Ms, Sq m M) (g : ∀ k M, Ms[k]? = some M → ∀ i j, i < m → j < m → gt M i j = wkT as k i j) : ∃ (t : Nat) (os : List Nat) (h' : Hs), conv (.tl (Ms.map mxV)) h = (.ref t, h') ∧ Wt h' t as m K os ∧ h'.take h.length = h ∧ h.length ≤ h'.length := by
  obtain ⟨os, h', e, ⟨es, he⟩, l, a⟩ := convs_tabs Ms h
  refine ⟨h'.length, os, h' ++ [.lst (os.map .ref)], ?_, ⟨List.getElem?_concat_length .., by rw [l, hl], fun k o eo => ?_⟩, ?_, ?_⟩
  · show ((.ref (convs (Ms.map mxV) h).2.length : PV), (convs (Ms.map mxV) h).2 ++ [Cell.lst (convs (Ms.map mxV) h).1]) = _
    rw [e]
  · have hk := (List.getElem?_eq_some_iff.mp eo).1
    have em : Ms[k]? = some Ms[k] := List.getElem?_eq_getElem (by omega)
    obtain ⟨ns, ax⟩ := a k o _ eo em
    exact ⟨_, ns, ax.app, sq _ (List.getElem_mem (by omega)), g k _ em⟩
  · rw [he, List.append_assoc, List.take_left]
  · rw [he]
    simp
def lwalksB (lo : Nat) : List S := [.asg (.nm 2) (.comp [3] (.nm 3) (.rng1 (.var 0)) false (.cst (.bl true)) (.bin .mul (.lst [(.cst .non)]) (.var 0))), .fr (.nm 3) (.rng1 (.var 0)) [.sub (.idx (.var 2) (.var 3)) (.var 3) (.cst (.int 0))], .asg (.nm 4) (.lst [(.var 2)]), .fr (.nm 5) (.rng1 (.var 0)) [.ex (.mth .append (.var 4) [(.call lo [(.var 0), (.var 1), (.idx (.var 4) (.var 5))])])], .ret (.var 4)]
theorem lwalks_w {lo ka : Nat} (is : Is FT f 2 6 (lwalksB lo)) (ilo : Is FT lo 3 12 llongerB) (ek : h[ka]? = some (.lst (arcsC as))) (hA : ArsIn m as) (hm : m ≤ 1000) (hl : as.length ≤ 5000)
    (q : ∀ Ms : List Mx, Ms.length = m + 1 → (∀ M ∈ Ms, Sq m M) → (∀ k M, Ms[k]? = some M → ∀ i j, i < m → j < m → gt M i j = wkT as k i j) → Q (.tl (Ms.map mxV)) h) : Wp (cal FT (d + 2) f [.d (.int m), .ref ka]) h Q := by
  refine is.call rfl ?_
  unfold lwalksB
  have hz : sizeLine = 2 ^ 24 := rfl
  have tn : ((m : Int) - 0).toNat = m := by omega
  let E2 : Option PV → Option PV → Option PV → Env := fun e3 e4 e5 => [some (.d (.int m)), some (.ref ka), some (.ref (h.length + m)), e3, e4, e5]
  refine w_cut (fun e hh => ∃ M', e = E2 none none none ∧ St h hh m M' ∧ ∀ x y, x < m → y < m → gt M' x y = none) ?_ ?_
  · simp only [Pe.Pw.ws, List.set_cons_zero, List.set_cons_succ, List.length_cons, List.length_nil, List.map_cons, List.map_nil, List.cons_append, List.nil_append, List.replicate_succ, List.replicate_zero, Nat.reduceSub, Nat.reduceAdd, Nat.reduceLT, true_and, and_true, if_true, Bool.false_eq_true, if_false, true_implies, false_implies, forall_const, decide_eq_true_eq, decide_eq_false_iff_not, Bool.not_eq_true', Bool.not_eq_false', reduceCtorEq]
    refine ⟨by omega, ?_⟩
    rw [tn]
    refine w_clg (fun _ => rowV (List.replicate m none)) (by omega) (fun x hx => ?_) ?_
    · simp only [Pe.Pw.ws, List.set_cons_zero, List.set_cons_succ, List.length_cons, List.length_nil, List.map_cons, List.map_nil, List.cons_append, List.nil_append, List.replicate_succ, List.replicate_zero, Nat.reduceSub, Nat.reduceAdd, Nat.reduceLT, true_and, and_true, if_true, Bool.false_eq_true, if_false, true_implies, false_implies, forall_const, decide_eq_true_eq, decide_eq_false_iff_not, Bool.not_eq_true', Bool.not_eq_false', reduceCtorEq, w_repN (show m ≤ 1000 by omega)]
      exact sz
    · rw [none_rows, show PV.tl ((noneM m).map rowV) = mxV (noneM m) from rfl, conv_mx, none_len]
      simp only [Pe.Pw.ws, List.set_cons_zero, List.set_cons_succ, List.length_cons, List.length_nil, List.map_cons, List.map_nil, List.cons_append, List.nil_append, List.replicate_succ, List.replicate_zero, Nat.reduceSub, Nat.reduceAdd, Nat.reduceLT, true_and, and_true, if_true, Bool.false_eq_true, if_false, true_implies, false_implies, forall_const, decide_eq_true_eq, decide_eq_false_iff_not, Bool.not_eq_true', Bool.not_eq_false', reduceCtorEq]
      exact ⟨_, rfl, none_st, fun x y hx hy => none_gt hx hy⟩
  rintro _ hh ⟨M, rfl, st, g0⟩
  refine w_cut (fun e hh => ∃ M e3, e = E2 e3 none none ∧ St h hh m M ∧ ∀ x y, x < m → y < m → gt M x y = wkT as 0 x y) ?_ ?_
  · simp only [Pe.Pw.ws, List.set_cons_zero, List.set_cons_succ, List.length_cons, List.length_nil, List.map_cons, List.map_nil, List.cons_append, List.nil_append, List.replicate_succ, List.replicate_zero, Nat.reduceSub, Nat.reduceAdd, Nat.reduceLT, true_and, and_true, if_true, Bool.false_eq_true, if_false, true_implies, false_implies, forall_const, decide_eq_true_eq, decide_eq_false_iff_not, Bool.not_eq_true', Bool.not_eq_false', reduceCtorEq, E2]
    refine ⟨by omega, ?_⟩
    rw [tn]
    refine w_forN (fun i e hh => ∃ M e3, e = E2 e3 none none ∧ St h hh m M ∧ ∀ x y, x < m → y < m → gt M x y = if x = y ∧ x < i then some 0 else none) ⟨M, none, rfl, st, fun x y hx hy => by rw [g0 x y hx hy, if_neg (show ¬ (x = y ∧ x < 0) by omega)]⟩ (fun i e hh hi p => ?_) fun e hh p => ?_
    · obtain ⟨M, e3, rfl, st, g0⟩ := p
      simp only [Pe.Pw.ws, List.set_cons_zero, List.set_cons_succ, List.length_cons, List.length_nil, List.map_cons, List.map_nil, List.cons_append, List.nil_append, List.replicate_succ, List.replicate_zero, Nat.reduceSub, Nat.reduceAdd, Nat.reduceLT, true_and, and_true, if_true, Bool.false_eq_true, if_false, true_implies, false_implies, forall_const, decide_eq_true_eq, decide_eq_false_iff_not, Bool.not_eq_true', Bool.not_eq_false', reduceCtorEq, E2]
      rw [Int.zero_add]
      refine st.wr (v := some 0) hi hi fun hh' M' st' ge => ?_
      refine ⟨M', _, rfl, st', fun x y hx hy => ?_⟩
      rw [ge]
      unfold Clo.upd
      rw [g0 x y hx hy]
      by_cases h1 : x = i ∧ y = i
      · obtain ⟨rfl, rfl⟩ := h1
        rw [if_pos ⟨rfl, rfl⟩, if_pos ⟨rfl, by omega⟩]
      · rw [if_neg h1]
        by_cases h2 : x = y ∧ x < i
        · rw [if_pos h2, if_pos ⟨h2.1, by omega⟩]
        · rw [if_neg h2, if_neg (show ¬ (x = y ∧ x < i + 1) by omega)]
    · obtain ⟨M, e3, rfl, st, g0⟩ := p
      refine ⟨M, e3, rfl, st, fun x y hx hy => ?_⟩
      rw [g0 x y hx hy]
      show _ = if x = y then some 0 else none
      by_cases h2 : x = y
      · rw [if_pos ⟨h2, hx⟩, if_pos h2]
      · rw [if_neg (fun c => h2 c.1), if_neg h2]
  clear g0 st M hh
  rintro _ hh ⟨M, e3, rfl, st, g0⟩
  let P : Nat → Env → Hs → Prop := fun i e hh => ∃ t ts e5, e = E2 e3 (some (.ref t)) e5 ∧ Wc h.length hh t m ts ∧ ts.length = i + 1 ∧ (∀ k x, ts[k]? = some x → ∀ i j, i < m → j < m → gt x.2.2 i j = wkT as k i j) ∧ hh.take h.length = h
  refine w_cut (P 0) ?_ ?_
  · simp only [Pe.Pw.ws, List.set_cons_zero, List.set_cons_succ, List.length_cons, List.length_nil, List.map_cons, List.map_nil, List.cons_append, List.nil_append, List.replicate_succ, List.replicate_zero, Nat.reduceSub, Nat.reduceAdd, Nat.reduceLT, true_and, and_true, if_true, Bool.false_eq_true, if_false, true_implies, false_implies, forall_const, decide_eq_true_eq, decide_eq_false_iff_not, Bool.not_eq_true', Bool.not_eq_false', reduceCtorEq, E2]
    refine ⟨sz, ?_⟩
    rw [show conv (.tl [.ref (h.length + m)]) hh = (.ref hh.length, hh ++ [.lst [.ref (h.length + m)]]) from rfl]
    simp only [Pe.Pw.ws, List.set_cons_zero, List.set_cons_succ, List.length_cons, List.length_nil, List.map_cons, List.map_nil, List.cons_append, List.nil_append, List.replicate_succ, List.replicate_zero, Nat.reduceSub, Nat.reduceAdd, Nat.reduceLT, true_and, and_true, if_true, Bool.false_eq_true, if_false, true_implies, false_implies, forall_const, decide_eq_true_eq, decide_eq_false_iff_not, Bool.not_eq_true', Bool.not_eq_false', reduceCtorEq]
    have sl := (List.getElem?_eq_some_iff.mp st.at_.cell).1
    refine ⟨_, [(h.length + m, List.range' h.length m, M)], _, rfl, ⟨List.getElem?_concat_length .., fun x hx => ?_, by omega, fun x hx => ?_, ?_⟩, rfl, fun k x e => ?_, ?_⟩
    · rw [List.mem_singleton.mp hx]
      exact ⟨MxAt.app st.at_, st.sq⟩
    · rw [List.mem_singleton.mp hx]
      exact ⟨own_new.le, own_new.les⟩
    · have on := (own_new (h := h) (k := m)).nd
      refine List.nodup_cons.mpr ⟨fun z => ?_, by simpa using on⟩
      simp only [List.flatMap_cons, List.flatMap_nil, List.append_nil, List.mem_cons] at z
      rcases z with z | z
      · omega
      · have := List.mem_range'_1.mp z
        omega
    · cases k with
      | succ k => cases e
      | zero => cases e; exact g0
    · rw [List.take_append_of_le_length (by omega), st.pre]
  clear g0 st M hh
  rintro e hh p
  refine w_cut (P m) ?_ ?_
  · obtain ⟨t, ts, e5, rfl, p⟩ := p
    simp only [Pe.Pw.ws, List.set_cons_zero, List.set_cons_succ, List.length_cons, List.length_nil, List.map_cons, List.map_nil, List.cons_append, List.nil_append, List.replicate_succ, List.replicate_zero, Nat.reduceSub, Nat.reduceAdd, Nat.reduceLT, true_and, and_true, if_true, Bool.false_eq_true, if_false, true_implies, false_implies, forall_const, decide_eq_true_eq, decide_eq_false_iff_not, Bool.not_eq_true', Bool.not_eq_false', reduceCtorEq, E2]
    refine ⟨by omega, ?_⟩
    rw [tn]
    refine w_forN P ⟨t, ts, e5, rfl, p⟩ (fun i e hh hi p => ?_) fun e hh p => p
    obtain ⟨t, ts, e5, rfl, w, tl, g, pre⟩ := p
    have e0 : ts[i]? = some ts[i] := List.getElem?_eq_getElem (by omega)
    have tb := w.tab _ (List.getElem_mem (show i < ts.length by omega))
    have ea : L2.atI ((ts.map fun x => x.1).map PV.ref) (i : Int) = some (.ref ts[i].1) := by
      rw [atI_map, atI_map, atI_nat, e0]
      rfl
    have old : hh[ka]? = some (.lst (arcsC as)) := by
      have hi := (List.getElem?_eq_some_iff.mp ek).1
      rw [← pre, List.getElem?_take_of_lt hi] at ek
      exact ek
    have cl := w.cell
    have wl := (List.getElem?_eq_some_iff.mp w.cell).1
    have wf := w.ft
    simp only [Pe.Pw.ws, List.set_cons_zero, List.set_cons_succ, List.length_cons, List.length_nil, List.map_cons, List.map_nil, List.cons_append, List.nil_append, List.replicate_succ, List.replicate_zero, Nat.reduceSub, Nat.reduceAdd, Nat.reduceLT, true_and, and_true, if_true, Bool.false_eq_true, if_false, true_implies, false_implies, forall_const, decide_eq_true_eq, decide_eq_false_iff_not, Bool.not_eq_true', Bool.not_eq_false', reduceCtorEq, E2]
    rw [Int.zero_add]
    simp only [Pe.Pw.ws, List.set_cons_zero, List.set_cons_succ, List.length_cons, List.length_nil, List.map_cons, List.map_nil, List.cons_append, List.nil_append, List.replicate_succ, List.replicate_zero, Nat.reduceSub, Nat.reduceAdd, Nat.reduceLT, true_and, and_true, if_true, Bool.false_eq_true, if_false, true_implies, false_implies, forall_const, decide_eq_true_eq, decide_eq_false_iff_not, Bool.not_eq_true', Bool.not_eq_false', reduceCtorEq, w_ixR w.cell ea]
    refine llonger_w (d := d) ilo old tb.1 tb.2 hA hm hl fun M' s' g' => ?_
    have cl2 : (hh ++ M'.map rowC ++ [Cell.lst ((List.range' hh.length M'.length).map .ref)])[t]? = some (.lst ((ts.map fun x => x.1).map .ref)) := by
      rw [List.append_assoc, List.getElem?_append_left wl]
      exact w.cell
    rw [w_appV conv_mx cl2 (by unfold storeOk; simp; omega) (by rw [List.length_map, List.length_map]; omega)]
    refine ⟨t, _, _, rfl, w.push s', by simp [tl], fun k x e => ?_, ?_⟩
    · by_cases hk : k < ts.length
      · rw [List.getElem?_append_left hk] at e
        exact g k x e
      · have hk2 := (List.getElem?_eq_some_iff.mp e).1
        rw [List.length_append, List.length_singleton] at hk2
        obtain rfl : k = i + 1 := by omega
        rw [List.getElem?_append_right (by omega), show i + 1 - ts.length = 0 by omega] at e
        cases e
        exact fun x y hx hy => by
          rw [g' x y hx hy]
          exact long_congr hA (fun x y hx hy => g i _ e0 x y hx hy) hx hy
    · rw [List.take_set_of_le (by omega), List.append_assoc, List.take_append_of_le_length (by omega), pre]
  rintro e hh ⟨t, ts, e5, rfl, w, tl, g, pre⟩
  simp only [Pe.Pw.ws, List.set_cons_zero, List.set_cons_succ, List.length_cons, List.length_nil, List.map_cons, List.map_nil, List.cons_append, List.nil_append, List.replicate_succ, List.replicate_zero, Nat.reduceSub, Nat.reduceAdd, Nat.reduceLT, true_and, and_true, if_true, Bool.false_eq_true, if_false, true_implies, false_implies, forall_const, decide_eq_true_eq, decide_eq_false_iff_not, Bool.not_eq_true', Bool.not_eq_false', reduceCtorEq, E2]
  rw [w.lv, pre]
  have := q (ts.map fun x => x.2.2) (by rw [List.length_map, tl]) (fun M hM => by
    obtain ⟨x, hx, rfl⟩ := List.mem_map.mp hM
    exact (w.tab x hx).2) fun k M e => by
    rw [List.getElem?_map] at e
    cases q : ts[k]? with
    | none => rw [q] at e; cases e
    | some x => rw [q] at e; cases e; exact g k x q
  rw [List.map_map] at this
  exact this
end
end Pe.Pw
/-! Pe: nearest places of a table that came in as a value; an arc that is no news. -/
namespace Pe.Pw
open PySem
section
variable {FT : List Fn} {h : Hs} {Q : PV → Hs → Prop} {n d f : Nat} {M : Mx} {ns : List Nat} {m : Nat}
end
end Pe.Pw
/-! Pe: sides of readings; ways told by sides. -/
namespace Pe.Pw
open PySem
theorem mem_allA : ∀ (rs : List Rd) (k : Nat) {r : Ar}, r ∈ allA k rs → ∃ (i : Nat) (rd : Rd), rs[i]? = some rd ∧ ((r.s = .tup [.int ((k + i : Nat) : Int), .int 1] ∧ rd.hi = some r.w ∧ r.a = rd.a ∧ r.b = rd.b) ∨ (r.s = .tup [.int ((k + i : Nat) : Int), .int (-1)] ∧ rd.lo = some (-r.w) ∧ r.a = rd.b ∧ r.b = rd.a))
  | [], _, _, h => absurd h List.not_mem_nil
  | rd :: rs, k, r, h => by
    unfold allA at h
    rcases List.mem_append.mp h with h | h
    · refine ⟨0, rd, rfl, ?_⟩
      obtain ⟨a, b, lo, hi⟩ := rd
      unfold arcsA at h
      rcases List.mem_append.mp h with h | h
      · cases lo with
        | none => cases h
        | some l =>
          rw [List.mem_singleton.mp h]
          exact .inr ⟨rfl, by simp, rfl, rfl⟩
      · cases hi with
        | none => cases h
        | some l =>
          rw [List.mem_singleton.mp h]
          exact .inl ⟨rfl, rfl, rfl, rfl⟩
    · obtain ⟨i, rd, e, h⟩ := mem_allA rs (k + 1) h
      refine ⟨i + 1, rd, e, ?_⟩
      rw [show k + (i + 1) = k + 1 + i by omega]
      exact h
section
variable {FT : List Fn} {h : Hs} {Q : PV → Hs → Prop} {n d f m : Nat} {rs : List Rd} {r : Ar}
def sideEndsB : List S := [.asg (.tup [(.nm 2), (.nm 3)]) (.var 1), .asg (.tup [(.nm 4), (.nm 5), (.nm 6), (.nm 7)]) (.idx (.var 0) (.var 2)), .ife (.cmp .eq (.var 3) (.cst (.int 1))) [.ret (.tup [(.var 4), (.var 5), (.var 7)])] [], .ret (.tup [(.var 5), (.var 4), (.un .neg (.var 6))])]
theorem sideEnds_e (is : Is FT f 2 8 sideEndsB) (hr : r ∈ allA 0 rs) : cal FT (d + 1) f [.d (rsD rs), .d r.s] h = some (.d (.tup [.int r.a, .int r.b, .int r.w]), h) := by
  obtain ⟨i, rd, e, c⟩ := mem_allA rs 0 hr
  rw [Nat.zero_add] at c
  refine eq_of_wp (is.call rfl ?_)
  unfold sideEndsB rsD
  obtain ⟨a, b, lo, hi⟩ := rd
  dsimp only at c
  rcases c with ⟨e1, e2, e3, e4⟩ | ⟨e1, e2, e3, e4⟩
  · rw [e1, e3, e4]
    subst e2
    have ea : L2.atI (rs.map Rd.D) (i : Int) = some (.tup [.int a, .int b, oi lo, .int r.w]) := at_rd e
    simp only [Pe.Pw.ws, List.set_cons_zero, List.set_cons_succ, List.length_cons, List.length_nil, List.map_cons, List.map_nil, List.cons_append, List.nil_append, List.replicate_succ, List.replicate_zero, Nat.reduceSub, Nat.reduceAdd, Nat.reduceLT, true_and, and_true, if_true, Bool.false_eq_true, if_false, true_implies, false_implies, forall_const, decide_eq_true_eq, decide_eq_false_iff_not, Bool.not_eq_true', Bool.not_eq_false', reduceCtorEq, w_ixT ea, mkTup_3, take_self]
    simp only [show (3 : Nat) ≤ sizeLine from sz]
    simp
  · rw [e1, e3, e4]
    subst e2
    have ea : L2.atI (rs.map Rd.D) (i : Int) = some (.tup [.int a, .int b, .int (-r.w), oi hi]) := at_rd e
    simp only [Pe.Pw.ws, List.set_cons_zero, List.set_cons_succ, List.length_cons, List.length_nil, List.map_cons, List.map_nil, List.cons_append, List.nil_append, List.replicate_succ, List.replicate_zero, Nat.reduceSub, Nat.reduceAdd, Nat.reduceLT, true_and, and_true, if_true, Bool.false_eq_true, if_false, true_implies, false_implies, forall_const, decide_eq_true_eq, decide_eq_false_iff_not, Bool.not_eq_true', Bool.not_eq_false', reduceCtorEq, w_ixT ea, mkTup_3, take_self]
    simp only [show (3 : Nat) ≤ sizeLine from sz, Int.neg_neg]
    simp
def wayWeightB (se : Nat) : List S := [.ret (.blt .sum [(.comp [2] (.nm 2) (.seq (.var 1)) false (.cst (.bl true)) (.idx (.call se [(.var 0), (.var 2)]) (.cst (.int 2))))])]
theorem wayWeight_e {se : Nat} {l : List Ar} (is : Is FT f 2 3 (wayWeightB se)) (ise : Is FT se 2 8 sideEndsB) (hr : ∀ r ∈ l, r ∈ allA 0 rs) (hl : l.length ≤ 10000) : cal FT (d + 2) f [.d (rsD rs), .d (.tup (l.map Ar.s))] h = some (.d (.int (l.map Ar.w).sum), h) := by
  refine eq_of_wp (is.call rfl ?_)
  unfold wayWeightB
  have hz : sizeLine = 2 ^ 24 := rfl
  simp only [Pe.Pw.ws, List.set_cons_zero, List.set_cons_succ, List.length_cons, List.length_nil, List.map_cons, List.map_nil, List.cons_append, List.nil_append, List.replicate_succ, List.replicate_zero, Nat.reduceSub, Nat.reduceAdd, Nat.reduceLT, true_and, and_true, if_true, Bool.false_eq_true, if_false, true_implies, false_implies, forall_const, decide_eq_true_eq, decide_eq_false_iff_not, Bool.not_eq_true', Bool.not_eq_false', reduceCtorEq]
  refine w_clx (h := h) l (fun r => .d r.s) (fun r => .d (.int r.w)) (by rw [show (l.map fun r => PV.d r.s) = (l.map Ar.s).map PV.d by rw [List.map_map]; rfl]; exact its_imm) (by omega) (fun r hx => ?_) ?_
  · simp only [Pe.Pw.ws, List.set_cons_zero, List.set_cons_succ, List.length_cons, List.length_nil, List.map_cons, List.map_nil, List.cons_append, List.nil_append, List.replicate_succ, List.replicate_zero, Nat.reduceSub, Nat.reduceAdd, Nat.reduceLT, true_and, and_true, if_true, Bool.false_eq_true, if_false, true_implies, false_implies, forall_const, decide_eq_true_eq, decide_eq_false_iff_not, Bool.not_eq_true', Bool.not_eq_false', reduceCtorEq, w_iff (sideEnds_e (h := h) (d := d) ise (hr r hx))]
    rw [w_ixT (show L2.atI [D.int r.a, .int r.b, .int r.w] 2 = some (.int r.w) from rfl)]
    exact ⟨rfl, rfl⟩
  · rw [show (l.map fun r => PV.d (.int r.w)) = (l.map Ar.w).map fun b => PV.d (.int b) by rw [List.map_map]; rfl]
    simp only [Pe.Pw.ws, List.set_cons_zero, List.set_cons_succ, List.length_cons, List.length_nil, List.map_cons, List.map_nil, List.cons_append, List.nil_append, List.replicate_succ, List.replicate_zero, Nat.reduceSub, Nat.reduceAdd, Nat.reduceLT, true_and, and_true, if_true, Bool.false_eq_true, if_false, true_implies, false_implies, forall_const, decide_eq_true_eq, decide_eq_false_iff_not, Bool.not_eq_true', Bool.not_eq_false', reduceCtorEq, take_self]
def isSideB (ir im : Nat) : List S := [.ife (.orr (.nt (.call ir [(.var 1), (.cst (.int 2))])) (.orr (.nt (.call im [(.idx (.var 1) (.cst (.int 0)))])) (.nt (.call im [(.idx (.var 1) (.cst (.int 1)))])))) [.ret (.cst (.bl false))] [], .asg (.tup [(.nm 2), (.nm 3)]) (.var 1), .ife (.nt (.chn .le .lt (.cst (.int 0)) (.var 2) (.blt .len [(.var 0)]))) [.ret (.cst (.bl false))] [], .ife (.cmp .eq (.var 3) (.cst (.int 1))) [.ret (.cmp .notN (.idx (.idx (.var 0) (.var 2)) (.cst (.int 3))) (.cst .non))] [], .ret (.an (.cmp .eq (.var 3) (.un .neg (.cst (.int 1)))) (.cmp .notN (.idx (.idx (.var 0) (.var 2)) (.cst (.int 2))) (.cst .non)))]
def isWayB (is se : Nat) : List S := [.ife (.orr (.nt (.blt (.isi [.tuple]) [(.var 4)])) (.nt (.blt .all [(.comp [10] (.nm 10) (.seq (.var 4)) false (.cst (.bl true)) (.call is [(.var 1), (.var 10)]))]))) [.ret (.cst (.bl false))] [], .asg (.nm 5) (.var 2), .fr (.nm 6) (.seq (.var 4)) [.asg (.tup [(.nm 7), (.nm 8), (.nm 9)]) (.call se [(.var 1), (.var 6)]), .ife (.cmp .ne (.var 7) (.var 5)) [.ret (.cst (.bl false))] [], .asg (.nm 5) (.var 8)], .ret (.cmp .eq (.var 5) (.var 3))]
end
end Pe.Pw
/-! Pe: bound_way, bound_places, _law_way. -/
namespace Pe.Pw
open PySem
/-- the due way -/
def WayIs (m : Nat) (as : List Ar) (x y : Nat) (v : D) : Prop := (minWay (as.map Ar.arc) x y = none ∧ v = .non) ∨ ∃ (u : Int) (N : Nat), minWay (as.map Ar.arc) x y = some u ∧ N < m ∧ wkT as N x y = some u ∧ (∀ k, k < N → wkT as k x y ≠ some u) ∧ (∀ k v, wkT as k x y = some v → u ≤ v) ∧ v = .tup ((namesP as N x y (u + 1)).map Ar.s)
section
variable {FT : List Fn} {h : Hs} {Q : PV → Hs → Prop} {n d f m : Nat} {rs : List Rd} {T : Clo.Tb} {x y : Nat}
theorem mxV_rd {M : Mx} (s : Sq m M) (hx : x < m) (hy : y < m) {R : PV → Hs → Prop} : (Wp (idxV (mxV M) (.d (.int (x : Nat)))) h fun v h1 => Wp (idxV v (.d (.int (y : Nat)))) h1 R) ↔ R (.d (oi (gt M x y))) h := by
  obtain ⟨r, er, rl⟩ := s.get hx
  have ex : L2.atI (M.map rowV) (x : Int) = some (rowV r) := by
    rw [atI_map, atI_nat, er]
    rfl
  unfold mxV
  rw [w_ixL ex]
  unfold rowV
  rw [w_ixL (at_row (by omega)), gt_row er]
theorem allA_in (hr : RdsIn m rs) : ArsIn m (allA 0 rs) := fun x hx => arA_in hr hx
theorem highs_cl {hg la : Nat} (ihg : Is FT hg 2 11 (highsB la)) (ila : Is FT la 1 7 larcsB) (hm : m ≤ 1000) (hl : rs.length ≤ 1000) (hr : RdsIn m rs) (nc : ¬ Clo.Clash m (rs.flatMap arcsP)) (q : ∀ M, Sq m M → Clo.Cl m (rs.flatMap arcsP) (gt M) → Q (mxV M) h) : Wp (cal FT (d + 2) hg [.d (.int m), .d (rsD rs)]) h Q :=
  highs_w ihg ila hm hl hr fun M s fw tr => by
    have nn : Clo.Nn m (gt M) := fun z u hz e => Int.not_lt.mp fun hu => nc (fw.clash hz e hu)
    exact q M s (fw.cl (arcs_in hr) nn (tr nn))
def lwayB (hg la lw ln : Nat) : List S := [.asg (.nm 4) (.idx (.idx (.call hg [(.var 0), (.var 1)]) (.var 2)) (.var 3)), .ife (.orr (.cmp .eq (.var 2) (.var 3)) (.cmp .isN (.var 4) (.cst .non))) [.ret (.idx (.lst [(.cst .non), (.tup [])]) (.blt .int [(.cmp .eq (.var 2) (.var 3))]))] [], .asg (.nm 5) (.call la [(.var 1)]), .asg (.nm 6) (.call lw [(.var 0), (.var 5)]), .fr (.nm 7) (.rng2 (.cst (.int 1)) (.var 0)) [.ife (.an (.cmp .notN (.idx (.idx (.idx (.var 6) (.var 7)) (.var 2)) (.var 3)) (.cst .non)) (.cmp .eq (.idx (.idx (.idx (.var 6) (.var 7)) (.var 2)) (.var 3)) (.var 4))) [.ret (.call ln [(.var 5), (.var 6), (.var 2), (.var 3), (.var 7), (.bin .add (.var 4) (.cst (.int 1)))])] []], .ret (.cst .non)]
theorem lway_e {hg la lw ln lo : Nat} {v : D} (is : Is FT f 4 8 (lwayB hg la lw ln)) (ihg : Is FT hg 2 11 (highsB la)) (ila : Is FT la 1 7 larcsB) (ilw : Is FT lw 2 6 (lwalksB lo)) (ilo : Is FT lo 3 12 llongerB) (iln : Is FT ln 6 15 lnamesB)
    (hm : m ≤ 1000) (hl : rs.length ≤ 1000) (hr : RdsIn m rs) (nc : ¬ Clo.Clash m (rs.flatMap arcsP)) (hx : x < m) (hy : y < m) (hv : WayIs m (allA 0 rs) x y v) : cal FT (d + 3) f [.d (.int m), .d (rsD rs), .d (.int x), .d (.int y)] h = some (.d v, h) := by
  refine eq_of_wp (is.call rfl ?_)
  unfold lwayB
  have hz : sizeLine = 2 ^ 24 := rfl
  have ea := allA_arc rs 0
  refine w_cut (fun e hh => hh = h ∧ (x = y → minWay (rs.flatMap arcsP) x y = some 0) ∧ e = [some (.d (.int m)), some (.d (rsD rs)), some (.d (.int x)), some (.d (.int y)), some (.d (oi (minWay (rs.flatMap arcsP) x y))), none, none, none]) ?_ ?_
  · simp only [Pe.Pw.ws, List.set_cons_zero, List.set_cons_succ, List.length_cons, List.length_nil, List.map_cons, List.map_nil, List.cons_append, List.nil_append, List.replicate_succ, List.replicate_zero, Nat.reduceSub, Nat.reduceAdd, Nat.reduceLT, true_and, and_true, if_true, Bool.false_eq_true, if_false, true_implies, false_implies, forall_const, decide_eq_true_eq, decide_eq_false_iff_not, Bool.not_eq_true', Bool.not_eq_false', reduceCtorEq]
    refine highs_cl ihg ila hm hl hr nc fun M s c => ?_
    refine (mxV_rd s hx hy).mpr ?_
    simp only [Pe.Pw.ws, List.set_cons_zero, List.set_cons_succ, List.length_cons, List.length_nil, List.map_cons, List.map_nil, List.cons_append, List.nil_append, List.replicate_succ, List.replicate_zero, Nat.reduceSub, Nat.reduceAdd, Nat.reduceLT, true_and, and_true, if_true, Bool.false_eq_true, if_false, true_implies, false_implies, forall_const, decide_eq_true_eq, decide_eq_false_iff_not, Bool.not_eq_true', Bool.not_eq_false', reduceCtorEq]
    rw [cl_min c hx hy]
    exact ⟨fun e => by subst e; rw [← cl_min c hx hx]; exact c.diag x hx, rfl⟩
  rintro _ h ⟨rfl, dg, rfl⟩
  by_cases hxy : x = y
  · have hv' : v = .tup [] := by
      rcases hv with ⟨q, _⟩ | ⟨u, N, q, hN, hw, first, low, rfl⟩
      · rw [ea, dg hxy] at q
        cases q
      · rw [ea, dg hxy] at q
        cases q
        have : N = 0 := by
          by_cases z : N = 0
          · exact z
          · exact absurd (if_pos hxy) (first 0 (by omega))
        subst this
        rfl
    subst hxy
    have a1 : L2.atI [PV.d .non, PV.d (.tup [])] 1 = some (.d (.tup [])) := rfl
    simp only [Pe.Pw.ws, List.set_cons_zero, List.set_cons_succ, List.length_cons, List.length_nil, List.map_cons, List.map_nil, List.cons_append, List.nil_append, List.replicate_succ, List.replicate_zero, Nat.reduceSub, Nat.reduceAdd, Nat.reduceLT, true_and, and_true, if_true, Bool.false_eq_true, if_false, true_implies, false_implies, forall_const, decide_eq_true_eq, decide_eq_false_iff_not, Bool.not_eq_true', Bool.not_eq_false', reduceCtorEq, mkTup_nil, decide_true, if_true, w_ixL a1, take_self]
    rw [hv']
    exact ⟨Nat.zero_le _, sz, rfl⟩
  · have hne : ¬ ((x : Nat) : Int) = (y : Nat) := by omega
    rcases hv with ⟨q, rfl⟩ | ⟨u, N, q, hN, hw, first, low, rfl⟩
    · rw [ea] at q
      rw [q]
      have a0 : L2.atI [PV.d .non, PV.d (.tup [])] 0 = some (.d .non) := rfl
      simp only [Pe.Pw.ws, List.set_cons_zero, List.set_cons_succ, List.length_cons, List.length_nil, List.map_cons, List.map_nil, List.cons_append, List.nil_append, List.replicate_succ, List.replicate_zero, Nat.reduceSub, Nat.reduceAdd, Nat.reduceLT, true_and, and_true, if_true, Bool.false_eq_true, if_false, true_implies, false_implies, forall_const, decide_eq_true_eq, decide_eq_false_iff_not, Bool.not_eq_true', Bool.not_eq_false', reduceCtorEq, hne, oi, isNon, mkTup_nil, decide_false, Bool.false_eq_true, if_false, w_ixL a0, take_self]
      exact ⟨Nat.zero_le _, sz⟩
    · rw [ea] at q
      rw [q]
      clear dg
      refine w_cut (fun e hh => hh = h ∧ e = [some (.d (.int m)), some (.d (rsD rs)), some (.d (.int x)), some (.d (.int y)), some (.d (.int u)), none, none, none]) ?_ ?_
      · simp only [Pe.Pw.ws, List.set_cons_zero, List.set_cons_succ, List.length_cons, List.length_nil, List.map_cons, List.map_nil, List.cons_append, List.nil_append, List.replicate_succ, List.replicate_zero, Nat.reduceSub, Nat.reduceAdd, Nat.reduceLT, true_and, and_true, if_true, Bool.false_eq_true, if_false, true_implies, false_implies, forall_const, decide_eq_true_eq, decide_eq_false_iff_not, Bool.not_eq_true', Bool.not_eq_false', reduceCtorEq, hne, oi, isNon]
        exact fun _ => True.intro
      rintro _ h ⟨rfl, rfl⟩
      refine w_cut (fun e hh => hh = h ++ [.lst (arcsC (allA 0 rs))] ∧ e = [some (.d (.int m)), some (.d (rsD rs)), some (.d (.int x)), some (.d (.int y)), some (.d (.int u)), some (.ref h.length), none, none]) ?_ ?_
      · simp only [Pe.Pw.ws, List.set_cons_zero, List.set_cons_succ, List.length_cons, List.length_nil, List.map_cons, List.map_nil, List.cons_append, List.nil_append, List.replicate_succ, List.replicate_zero, Nat.reduceSub, Nat.reduceAdd, Nat.reduceLT, true_and, and_true, if_true, Bool.false_eq_true, if_false, true_implies, false_implies, forall_const, decide_eq_true_eq, decide_eq_false_iff_not, Bool.not_eq_true', Bool.not_eq_false', reduceCtorEq, w_iff (larcs_e (d := d + 1) ila hl)]
        rw [conv_tld]
        simp only [Pe.Pw.ws, List.set_cons_zero, List.set_cons_succ, List.length_cons, List.length_nil, List.map_cons, List.map_nil, List.cons_append, List.nil_append, List.replicate_succ, List.replicate_zero, Nat.reduceSub, Nat.reduceAdd, Nat.reduceLT, true_and, and_true, if_true, Bool.false_eq_true, if_false, true_implies, false_implies, forall_const, decide_eq_true_eq, decide_eq_false_iff_not, Bool.not_eq_true', Bool.not_eq_false', reduceCtorEq]
        exact rfl
      rintro _ _ ⟨rfl, rfl⟩
      have al := allA_len rs 0
      refine w_cut (fun e hh => ∃ t os, Wt hh t (allA 0 rs) m m os ∧ hh[h.length]? = some (.lst (arcsC (allA 0 rs))) ∧ hh.take h.length = h ∧ e = [some (.d (.int m)), some (.d (rsD rs)), some (.d (.int x)), some (.d (.int y)), some (.d (.int u)), some (.ref h.length), some (.ref t), none]) ?_ ?_
      · simp only [Pe.Pw.ws, List.set_cons_zero, List.set_cons_succ, List.length_cons, List.length_nil, List.map_cons, List.map_nil, List.cons_append, List.nil_append, List.replicate_succ, List.replicate_zero, Nat.reduceSub, Nat.reduceAdd, Nat.reduceLT, true_and, and_true, if_true, Bool.false_eq_true, if_false, true_implies, false_implies, forall_const, decide_eq_true_eq, decide_eq_false_iff_not, Bool.not_eq_true', Bool.not_eq_false', reduceCtorEq]
        refine lwalks_w (d := d) ilw ilo (List.getElem?_concat_length ..) (allA_in hr) hm (by omega) fun Ms ml sq g => ?_
        obtain ⟨t, os, h', e, wt, pre, _⟩ := conv_tabs (h := h ++ [.lst (arcsC (allA 0 rs))]) (as := allA 0 rs) ml sq g
        rw [e]
        simp only [Pe.Pw.ws, List.set_cons_zero, List.set_cons_succ, List.length_cons, List.length_nil, List.map_cons, List.map_nil, List.cons_append, List.nil_append, List.replicate_succ, List.replicate_zero, Nat.reduceSub, Nat.reduceAdd, Nat.reduceLT, true_and, and_true, if_true, Bool.false_eq_true, if_false, true_implies, false_implies, forall_const, decide_eq_true_eq, decide_eq_false_iff_not, Bool.not_eq_true', Bool.not_eq_false', reduceCtorEq]
        refine ⟨t, os, wt, ?_, ?_, rfl⟩
        · have : (h'.take (h ++ [Cell.lst (arcsC (allA 0 rs))]).length)[h.length]? = some (.lst (arcsC (allA 0 rs))) := by
            rw [pre]
            exact List.getElem?_concat_length ..
          rw [List.getElem?_take_of_lt (by simp)] at this
          exact this
        · have : (h'.take (h ++ [Cell.lst (arcsC (allA 0 rs))]).length).take h.length = h := by
            rw [pre, List.take_left]
          rw [List.take_take, Nat.min_eq_left (by simp)] at this
          exact this
      rintro _ hh ⟨t, os, wt, ek, pre, rfl⟩
      have N0 : 0 < N := by
        by_cases z : N = 0
        · subst z
          rw [show wkT (allA 0 rs) 0 x y = none from if_neg hxy] at hw
          cases hw
        · omega
      refine w_cut (fun _ _ => False) ?_ (fun _ _ z => z.elim)
      simp only [Pe.Pw.ws, List.set_cons_zero, List.set_cons_succ, List.length_cons, List.length_nil, List.map_cons, List.map_nil, List.cons_append, List.nil_append, List.replicate_succ, List.replicate_zero, Nat.reduceSub, Nat.reduceAdd, Nat.reduceLT, true_and, and_true, if_true, Bool.false_eq_true, if_false, true_implies, false_implies, forall_const, decide_eq_true_eq, decide_eq_false_iff_not, Bool.not_eq_true', Bool.not_eq_false', reduceCtorEq]
      refine ⟨by omega, ?_⟩
      rw [show ((m : Int) - 1).toNat = m - 1 by omega]
      refine w_forN (fun i e h1 => i + 1 ≤ N ∧ h1 = hh ∧ ∃ e7, e = [some (.d (.int m)), some (.d (rsD rs)), some (.d (.int x)), some (.d (.int y)), some (.d (.int u)), some (.ref h.length), some (.ref t), e7]) ⟨by omega, rfl, _, rfl⟩ (fun i e h1 hi p => ?_) fun e h1 p => ?_
      · obtain ⟨hi2, rfl, e7, rfl⟩ := p
        rw [show (1 + (i : Int)) = ((i + 1 : Nat) : Int) by omega]
        simp only [Pe.Pw.ws, List.set_cons_zero, List.set_cons_succ, List.length_cons, List.length_nil, List.map_cons, List.map_nil, List.cons_append, List.nil_append, List.replicate_succ, List.replicate_zero, Nat.reduceSub, Nat.reduceAdd, Nat.reduceLT, true_and, and_true, if_true, Bool.false_eq_true, if_false, true_implies, false_implies, forall_const, decide_eq_true_eq, decide_eq_false_iff_not, Bool.not_eq_true', Bool.not_eq_false', reduceCtorEq]
        refine (wt.rd (k := i + 1) (by omega) hx hy).mpr ?_
        by_cases hl : i + 1 = N
        · subst hl
          rw [hw]
          simp only [Pe.Pw.ws, List.set_cons_zero, List.set_cons_succ, List.length_cons, List.length_nil, List.map_cons, List.map_nil, List.cons_append, List.nil_append, List.replicate_succ, List.replicate_zero, Nat.reduceSub, Nat.reduceAdd, Nat.reduceLT, true_and, and_true, if_true, Bool.false_eq_true, if_false, true_implies, false_implies, forall_const, decide_eq_true_eq, decide_eq_false_iff_not, Bool.not_eq_true', Bool.not_eq_false', reduceCtorEq, oi, isNon, Bool.not_false]
          refine (wt.rd (k := i + 1) (by omega) hx hy).mpr ?_
          rw [hw]
          simp only [Pe.Pw.ws, List.set_cons_zero, List.set_cons_succ, List.length_cons, List.length_nil, List.map_cons, List.map_nil, List.cons_append, List.nil_append, List.replicate_succ, List.replicate_zero, Nat.reduceSub, Nat.reduceAdd, Nat.reduceLT, true_and, and_true, if_true, Bool.false_eq_true, if_false, true_implies, false_implies, forall_const, decide_eq_true_eq, decide_eq_false_iff_not, Bool.not_eq_true', Bool.not_eq_false', reduceCtorEq, oi]
          refine ⟨?_, fun z => absurd True.intro z⟩
          refine lnames_w (d := d + 1) (K' := i + 1) iln ek wt (allA_in hr) (by omega) (by omega) hx hy ?_
          simp only [Pe.Pw.ws, List.set_cons_zero, List.set_cons_succ, List.length_cons, List.length_nil, List.map_cons, List.map_nil, List.cons_append, List.nil_append, List.replicate_succ, List.replicate_zero, Nat.reduceSub, Nat.reduceAdd, Nat.reduceLT, true_and, and_true, if_true, Bool.false_eq_true, if_false, true_implies, false_implies, forall_const, decide_eq_true_eq, decide_eq_false_iff_not, Bool.not_eq_true', Bool.not_eq_false', reduceCtorEq]
          rw [pre]
        · have hne2 := first (i + 1) (by omega)
          cases q2 : wkT (allA 0 rs) (i + 1) x y with
          | none =>
            simp only [Pe.Pw.ws, List.set_cons_zero, List.set_cons_succ, List.length_cons, List.length_nil, List.map_cons, List.map_nil, List.cons_append, List.nil_append, List.replicate_succ, List.replicate_zero, Nat.reduceSub, Nat.reduceAdd, Nat.reduceLT, true_and, and_true, if_true, Bool.false_eq_true, if_false, true_implies, false_implies, forall_const, decide_eq_true_eq, decide_eq_false_iff_not, Bool.not_eq_true', Bool.not_eq_false', reduceCtorEq, oi, isNon, Bool.not_true]
            exact ⟨by omega, _, rfl⟩
          | some w =>
            have : ¬ w = u := fun z => hne2 (by rw [q2, z])
            simp only [Pe.Pw.ws, List.set_cons_zero, List.set_cons_succ, List.length_cons, List.length_nil, List.map_cons, List.map_nil, List.cons_append, List.nil_append, List.replicate_succ, List.replicate_zero, Nat.reduceSub, Nat.reduceAdd, Nat.reduceLT, true_and, and_true, if_true, Bool.false_eq_true, if_false, true_implies, false_implies, forall_const, decide_eq_true_eq, decide_eq_false_iff_not, Bool.not_eq_true', Bool.not_eq_false', reduceCtorEq, oi, isNon, Bool.not_false]
            refine (wt.rd (k := i + 1) (by omega) hx hy).mpr ?_
            rw [q2]
            simp only [Pe.Pw.ws, List.set_cons_zero, List.set_cons_succ, List.length_cons, List.length_nil, List.map_cons, List.map_nil, List.cons_append, List.nil_append, List.replicate_succ, List.replicate_zero, Nat.reduceSub, Nat.reduceAdd, Nat.reduceLT, true_and, and_true, if_true, Bool.false_eq_true, if_false, true_implies, false_implies, forall_const, decide_eq_true_eq, decide_eq_false_iff_not, Bool.not_eq_true', Bool.not_eq_false', reduceCtorEq, oi]
            exact ⟨fun z => absurd z this, fun _ => ⟨by omega, _, rfl⟩⟩
      · obtain ⟨hi2, _⟩ := p
        exact absurd hN (by omega)
end
end Pe.Pw
/-! Pe: rings below 0: a clash has one of at most m arcs; a first one names each mark once. Plain. -/
namespace Pe.Pw
open PySem
theorem Wn.app {A : List Clo.Arc} {k l x y z : Nat} {v u : Int} (w : Wn A k x y v) (t : Wn A l y z u) : Wn A (k + l) x z (v + u) := by
  induction w with
  | nil x => rw [Nat.zero_add, Int.zero_add]; exact t
  | @cons k a b y w v h _ ih =>
    rw [show k + 1 + l = (k + l) + 1 by omega, Int.add_assoc]
    exact .cons h (ih t)
/-- a simple way cut at one of its marks -/
theorem Sw.cut {A : List Clo.Arc} {l : List Nat} {x y z : Nat} {v : Int} (w : Sw A l x y v) (hz : z ∈ l) (nd : l.Nodup) : ∃ l1 l2 p u, Sw A l2 z y u ∧ Sw A l1 x z p ∧ v = p + u ∧ l2.Nodup ∧ (∀ q ∈ l2, q ∈ l) ∧ l1.Nodup ∧ (∀ q ∈ l1, q ∈ l) := by
  induction w with
  | nil x =>
    rw [List.mem_singleton.mp hz]
    exact ⟨[x], [x], 0, 0, .nil x, .nil x, rfl, nd, fun _ h => h, nd, fun _ h => h⟩
  | @cons l a b y w v h t ih =>
    by_cases e : z = a
    · subst e
      exact ⟨[z], z :: l, 0, w + v, .cons h t, .nil z, by omega, nd, fun _ h => h, List.nodup_cons.mpr ⟨List.not_mem_nil, List.nodup_nil⟩, fun q hq => by rw [List.mem_singleton.mp hq]; exact List.mem_cons_self⟩
    · have hz' : z ∈ l := (List.mem_cons.mp hz).resolve_left e
      obtain ⟨l1, l2, p, u, s2, s1, e2, n2, sub2, n1, sub1⟩ := ih hz' (List.nodup_cons.mp nd).2
      refine ⟨a :: l1, l2, w + p, u, s2, .cons h s1, by omega, n2, fun q hq => List.mem_cons_of_mem _ (sub2 q hq), List.nodup_cons.mpr ⟨fun c => (List.nodup_cons.mp nd).1 (sub1 a c), n1⟩, fun q hq => ?_⟩
      rcases List.mem_cons.mp hq with e | e
      · rw [e]; exact List.mem_cons_self
      · exact List.mem_cons_of_mem _ (sub1 q e)
/-! names of a ring -/
end Pe.Pw
/-! Pe: is_below, ring_names. -/
namespace Pe.Pw
open PySem
def lightA (F : Clo.Tb) (L : Int) (r : Ar) : Bool := match F r.b r.a with
  | some t => decide (r.w + t < L)
  | none => false
def ringP (as : List Ar) (K : Nat) (L : Int) (r : Ar) : List Ar := r :: namesP as K r.b r.a (L - r.w)
section
variable {FT : List Fn} {h : Hs} {Q : PV → Hs → Prop} {n d f : Nat}
theorem Wt.cut {t m K : Nat} {as : List Ar} {os : List Nat} (w : Wt h t as m (K + 1) os) : Wt (h ++ [.lst ((os.take (K + 1)).map .ref)]) h.length as m K (os.take (K + 1)) := by
  have wl := w.len
  refine ⟨List.getElem?_concat_length .., by rw [List.length_take]; omega, fun k o e => ?_⟩
  have hk : k < K + 1 := by
    have := (List.getElem?_eq_some_iff.mp e).1
    rw [List.length_take] at this
    omega
  rw [List.getElem?_take_of_lt hk] at e
  obtain ⟨M, ns, a, s, g⟩ := w.tab k o e
  exact ⟨M, ns, a.app, s, g⟩
theorem namesP_len {as : List Ar} {goal : Nat} : ∀ {k now : Nat} {L : Int}, (namesP as k now goal L).length ≤ k
  | 0, _, _ => Nat.le_refl _
  | k + 1, now, L => by
    rw [namesP_succ]
    cases pickA as (wkT as k) now goal L with
    | none => exact Nat.le_succ_of_le namesP_len
    | some r => exact Nat.succ_le_succ namesP_len
end
end Pe.Pw
/-! Pe: first_light_ring, _law_light. -/
namespace Pe.Pw
open PySem
def lightK (as : List Ar) (K : Nat) (L : Int) : Option Ar := as.find? (lightA (wkT as K) L)
/-- the due ring -/
def LightIs (m : Nat) (as : List Ar) (L : Int) (v : D) : Prop := (v = .non ∧ ∀ K, K < m → lightK as K L = none) ∨ ∃ K r, K < m ∧ lightK as K L = some r ∧ (∀ K', K' < K → lightK as K' L = none) ∧ v = .tup ((ringP as K L r).map Ar.s)
section
variable {FT : List Fn} {h : Hs} {Q : PV → Hs → Prop} {n d f m : Nat} {as : List Ar}
end
end Pe.Pw
/-! Pe: _law_light. -/
namespace Pe.Pw
open PySem
section
variable {FT : List Fn} {h : Hs} {Q : PV → Hs → Prop} {n d f m : Nat} {as : List Ar}
theorem light0 {L : Int} (ne : ∀ r ∈ as, r.a ≠ r.b) : lightK as 0 L = none := by
  unfold lightK
  rw [List.find?_eq_none]
  intro r hr
  unfold lightA
  rw [show wkT as 0 r.b r.a = none from if_neg fun e => ne r hr e.symm]
  exact Bool.false_ne_true
def llightB (lw ln : Nat) : List S := [.asg (.nm 3) (.call lw [(.var 0), (.var 1)]), .fr (.nm 4) (.rng2 (.cst (.int 2)) (.bin .add (.var 0) (.cst (.int 1)))) [.fr (.tup [(.nm 5), (.nm 6), (.nm 7), (.nm 8)]) (.seq (.var 1)) [.asg (.nm 9) (.idx (.idx (.idx (.var 3) (.bin .sub (.var 4) (.cst (.int 1)))) (.var 6)) (.var 5)), .ife (.an (.cmp .notN (.var 9) (.cst .non)) (.cmp .lt (.bin .add (.var 7) (.var 9)) (.var 2))) [.ret (.bin .add (.tup [(.var 8)]) (.call ln [(.var 1), (.var 3), (.var 6), (.var 5), (.bin .sub (.var 4) (.cst (.int 1))), (.bin .sub (.var 2) (.var 7))]))] []]], .ret (.cst .non)]
theorem llight_c {lw ln lo ka fb : Nat} {L : Int} {v : D} (hf : fb ≤ h.length) (ilw : Is FT lw 2 6 (lwalksB lo)) (ilo : Is FT lo 3 12 llongerB) (iln : Is FT ln 6 15 lnamesB) (ek : h[ka]? = some (.lst (arcsC as))) (hA : ArsIn m as) (hm : m ≤ 1000) (hl : as.length ≤ 5000) (ne : ∀ r ∈ as, r.a ≠ r.b) (hv : LightIs m as L v) (q : Q (.d v) (h.take fb)) :
    Wp (evSs (cal FT (d + 2)) fb (llightB lw ln) [some (.d (.int m)), some (.ref ka), some (.d (.int L)), none, none, none, none, none, none, none]) h (Lv fb Q) := by
  unfold llightB
  have hz : sizeLine = 2 ^ 24 := rfl
  have old : ∀ {hh : Hs} {i : Nat} {c : Cell}, hh.take h.length = h → h[i]? = some c → hh[i]? = some c := fun {hh i c} pre e => by
    have hi := (List.getElem?_eq_some_iff.mp e).1
    rw [← pre, List.getElem?_take_of_lt hi] at e
    exact e
  have tfb : ∀ {hh : Hs}, hh.take h.length = h → hh.take fb = h.take fb := fun {hh} pre => by
    rw [← pre, List.take_take, Nat.min_eq_left hf]
  let E4 : Nat → Option PV → Option PV → Option PV → Option PV → Option PV → Option PV → Pe.Env := fun t e4 e5 e6 e7 e8 e9 => [some (.d (.int m)), some (.ref ka), some (.d (.int L)), some (.ref t), e4, e5, e6, e7, e8, e9]
  refine w_cut (fun e hh => ∃ t os, e = E4 t none none none none none none ∧ Wt hh t as m m os ∧ hh.take h.length = h) ?_ ?_
  · simp only [Pe.Pw.ws, List.set_cons_zero, List.set_cons_succ, List.length_cons, List.length_nil, List.map_cons, List.map_nil, List.cons_append, List.nil_append, List.replicate_succ, List.replicate_zero, Nat.reduceSub, Nat.reduceAdd, Nat.reduceLT, true_and, and_true, if_true, Bool.false_eq_true, if_false, true_implies, false_implies, forall_const, decide_eq_true_eq, decide_eq_false_iff_not, Bool.not_eq_true', Bool.not_eq_false', reduceCtorEq]
    refine lwalks_w (d := d) ilw ilo ek hA hm hl fun Ms ml sq g => ?_
    obtain ⟨t, os, h', e, wt, pre, _⟩ := conv_tabs (h := h) (as := as) ml sq g
    rw [e]
    simp only [Pe.Pw.ws, List.set_cons_zero, List.set_cons_succ, List.length_cons, List.length_nil, List.map_cons, List.map_nil, List.cons_append, List.nil_append, List.replicate_succ, List.replicate_zero, Nat.reduceSub, Nat.reduceAdd, Nat.reduceLT, true_and, and_true, if_true, Bool.false_eq_true, if_false, true_implies, false_implies, forall_const, decide_eq_true_eq, decide_eq_false_iff_not, Bool.not_eq_true', Bool.not_eq_false', reduceCtorEq]
    exact ⟨t, os, rfl, wt, pre⟩
  rintro _ hh ⟨t, os, rfl, wt, pre⟩
  have ek := old pre ek
  refine w_cut (fun _ h1 => h1 = hh ∧ v = .non) ?_ ?_
  · simp only [Pe.Pw.ws, List.set_cons_zero, List.set_cons_succ, List.length_cons, List.length_nil, List.map_cons, List.map_nil, List.cons_append, List.nil_append, List.replicate_succ, List.replicate_zero, Nat.reduceSub, Nat.reduceAdd, Nat.reduceLT, true_and, and_true, if_true, Bool.false_eq_true, if_false, true_implies, false_implies, forall_const, decide_eq_true_eq, decide_eq_false_iff_not, Bool.not_eq_true', Bool.not_eq_false', reduceCtorEq, E4]
    refine ⟨by omega, ?_⟩
    rw [show ((m : Int) + 1 - 2).toNat = m - 1 by omega]
    refine w_forN (fun i e h1 => h1 = hh ∧ (∃ e4 e5 e6 e7 e8 e9, e = E4 t e4 e5 e6 e7 e8 e9) ∧ ∀ K, K < i + 1 → lightK as K L = none) ⟨rfl, ⟨_, _, _, _, _, _, rfl⟩, fun K hK => by
      obtain rfl : K = 0 := by omega
      exact light0 ne⟩ (fun i e h1 hi p => ?_) fun e h1 p => ?_
    · obtain ⟨rfl, ⟨e4, e5, e6, e7, e8, e9, rfl⟩, no⟩ := p
      refine w_nm.mpr ⟨(by decide : 4 < 10), ?_⟩
      refine w_cut (fun e hh => hh = h1 ∧ (∃ e5 e6 e7 e8 e9, e = E4 t (some (.d (.int (2 + (i : Int))))) e5 e6 e7 e8 e9) ∧ lightK as (i + 1) L = none) ?_ ?_
      · simp only [Pe.Pw.ws, List.set_cons_zero, List.set_cons_succ, List.length_cons, List.length_nil, List.map_cons, List.map_nil, List.cons_append, List.nil_append, List.replicate_succ, List.replicate_zero, Nat.reduceSub, Nat.reduceAdd, Nat.reduceLT, true_and, and_true, if_true, Bool.false_eq_true, if_false, true_implies, false_implies, forall_const, decide_eq_true_eq, decide_eq_false_iff_not, Bool.not_eq_true', Bool.not_eq_false', reduceCtorEq, E4]
        refine w_for (arcsC as) (fun j e hh => hh = h1 ∧ (∀ k x, k < j → as[k]? = some x → lightA (wkT as (i + 1)) L x = false) ∧ ∃ e5 e6 e7 e8 e9, e = E4 t (some (.d (.int (2 + (i : Int))))) e5 e6 e7 e8 e9) ⟨rfl, fun k _ hk => absurd hk (Nat.not_lt_zero k), _, _, _, _, _, rfl⟩ (fun j e hh _ p => by
          obtain ⟨rfl, _⟩ := p
          exact its_cell ek) (fun j e hh x ex p => ?_) fun e hh p => ?_
        · obtain ⟨rfl, no2, e5, e6, e7, e8, e9, rfl⟩ := p
          have hj := (List.getElem?_eq_some_iff.mp ex).1
          unfold arcsC at ex hj
          rw [List.length_map, List.length_map] at hj
          have er : as[j]? = some as[j] := List.getElem?_eq_getElem hj
          rw [List.getElem?_map, List.getElem?_map, er] at ex
          cases ex
          have xi := hA _ (List.getElem_mem hj)
          generalize as[j] = s at *
          have skip : lightA (wkT as (i + 1)) L s = false → ∀ k x, k < j + 1 → as[k]? = some x → lightA (wkT as (i + 1)) L x = false := fun hs k x hk e => by
            by_cases h1 : k < j
            · exact no2 k x h1 e
            · obtain rfl : k = j := by omega
              rw [er] at e
              cases e
              exact hs
          unfold Ar.D
          simp only [Pe.Pw.ws, List.set_cons_zero, List.set_cons_succ, List.length_cons, List.length_nil, List.map_cons, List.map_nil, List.cons_append, List.nil_append, List.replicate_succ, List.replicate_zero, Nat.reduceSub, Nat.reduceAdd, Nat.reduceLT, true_and, and_true, if_true, Bool.false_eq_true, if_false, true_implies, false_implies, forall_const, decide_eq_true_eq, decide_eq_false_iff_not, Bool.not_eq_true', Bool.not_eq_false', reduceCtorEq, E4]
          rw [show (2 + (i : Int) - 1) = ((i + 1 : Nat) : Int) by omega]
          refine (wt.rd (k := i + 1) (by omega) xi.2 xi.1).mpr ?_
          cases q1 : wkT as (i + 1) s.b s.a with
          | none =>
            simp only [Pe.Pw.ws, List.set_cons_zero, List.set_cons_succ, List.length_cons, List.length_nil, List.map_cons, List.map_nil, List.cons_append, List.nil_append, List.replicate_succ, List.replicate_zero, Nat.reduceSub, Nat.reduceAdd, Nat.reduceLT, true_and, and_true, if_true, Bool.false_eq_true, if_false, true_implies, false_implies, forall_const, decide_eq_true_eq, decide_eq_false_iff_not, Bool.not_eq_true', Bool.not_eq_false', reduceCtorEq, oi, isNon, Bool.not_true]
            exact ⟨skip (by unfold lightA; rw [q1]), _, _, _, _, _, rfl⟩
          | some u =>
            simp only [Pe.Pw.ws, List.set_cons_zero, List.set_cons_succ, List.length_cons, List.length_nil, List.map_cons, List.map_nil, List.cons_append, List.nil_append, List.replicate_succ, List.replicate_zero, Nat.reduceSub, Nat.reduceAdd, Nat.reduceLT, true_and, and_true, if_true, Bool.false_eq_true, if_false, true_implies, false_implies, forall_const, decide_eq_true_eq, decide_eq_false_iff_not, Bool.not_eq_true', Bool.not_eq_false', reduceCtorEq, oi, isNon, Bool.not_false]
            refine ⟨fun z => ?_, fun z => ?_⟩
            · have ls : lightA (wkT as (i + 1)) L s = true := by
                unfold lightA
                rw [q1]
                exact decide_eq_true z
              have hs : lightK as (i + 1) L = some s := by
                unfold lightK
                rw [List.find?_eq_some_iff_getElem]
                have hq := List.getElem?_eq_some_iff.mp er
                refine ⟨ls, j, hj, hq.2, fun k hk => ?_⟩
                rw [no2 k _ hk (List.getElem?_eq_getElem (by omega))]
                rfl
              have ve : v = .tup ((ringP as (i + 1) L s).map Ar.s) := by
                rcases hv with ⟨_, nn⟩ | ⟨K, r', hK, hr', nn, e⟩
                · rw [nn (i + 1) (by omega)] at hs
                  cases hs
                · have : K = i + 1 := by
                    by_cases h1 : K < i + 1
                    · rw [no K h1] at hr'
                      cases hr'
                    · by_cases h2 : i + 1 < K
                      · rw [nn (i + 1) h2] at hs
                        cases hs
                      · omega
                  subst this
                  rw [hs] at hr'
                  cases hr'
                  exact e
              simp only [Pe.Pw.ws, List.set_cons_zero, List.set_cons_succ, List.length_cons, List.length_nil, List.map_cons, List.map_nil, List.cons_append, List.nil_append, List.replicate_succ, List.replicate_zero, Nat.reduceSub, Nat.reduceAdd, Nat.reduceLT, true_and, and_true, if_true, Bool.false_eq_true, if_false, true_implies, false_implies, forall_const, decide_eq_true_eq, decide_eq_false_iff_not, Bool.not_eq_true', Bool.not_eq_false', reduceCtorEq, mkTup_1]
              refine ⟨sz, ?_⟩
              refine lnames_w (d := d + 1) (K' := i + 1) iln ek wt hA (by omega) (by omega) xi.2 xi.1 ?_
              have nl := namesP_len (as := as) (goal := s.a) (k := i + 1) (now := s.b) (L := L - s.w)
              simp only [Pe.Pw.ws, List.set_cons_zero, List.set_cons_succ, List.length_cons, List.length_nil, List.map_cons, List.map_nil, List.cons_append, List.nil_append, List.replicate_succ, List.replicate_zero, Nat.reduceSub, Nat.reduceAdd, Nat.reduceLT, true_and, and_true, if_true, Bool.false_eq_true, if_false, true_implies, false_implies, forall_const, decide_eq_true_eq, decide_eq_false_iff_not, Bool.not_eq_true', Bool.not_eq_false', reduceCtorEq, List.length_map]
              refine ⟨by have : [s.s].length = 1 := rfl; omega, ?_⟩
              rw [tfb pre]
              rw [ve] at q
              exact q
            · exact ⟨skip (by unfold lightA; rw [q1]; exact decide_eq_false z), _, _, _, _, _, rfl⟩
        · obtain ⟨rfl, no2, e5, e6, e7, e8, e9, rfl⟩ := p
          refine ⟨rfl, ⟨_, _, _, _, _, rfl⟩, ?_⟩
          unfold lightK
          rw [List.find?_eq_none]
          intro x hx
          unfold arcsC at no2
          rw [List.length_map, List.length_map] at no2
          obtain ⟨k, hk, e⟩ := List.getElem_of_mem hx
          rw [no2 k x hk (by rw [List.getElem?_eq_getElem hk, e])]
          exact Bool.false_ne_true
      rintro _ hh ⟨rfl, ⟨e5, e6, e7, e8, e9, rfl⟩, nn⟩
      simp only [Pe.Pw.ws, List.set_cons_zero, List.set_cons_succ, List.length_cons, List.length_nil, List.map_cons, List.map_nil, List.cons_append, List.nil_append, List.replicate_succ, List.replicate_zero, Nat.reduceSub, Nat.reduceAdd, Nat.reduceLT, true_and, and_true, if_true, Bool.false_eq_true, if_false, true_implies, false_implies, forall_const, decide_eq_true_eq, decide_eq_false_iff_not, Bool.not_eq_true', Bool.not_eq_false', reduceCtorEq]
      refine ⟨⟨_, _, _, _, _, _, rfl⟩, fun K hK => ?_⟩
      by_cases h2 : K < i + 1
      · exact no K h2
      · obtain rfl : K = i + 1 := by omega
        exact nn
    · obtain ⟨rfl, _, no⟩ := p
      refine ⟨rfl, ?_⟩
      rcases hv with ⟨e, _⟩ | ⟨K, r', hK, hr', nn, e⟩
      · exact e
      · rw [no K (by omega)] at hr'
        cases hr'
  rintro e h1 ⟨rfl, rfl⟩
  simp only [Pe.Pw.ws, List.set_cons_zero, List.set_cons_succ, List.length_cons, List.length_nil, List.map_cons, List.map_nil, List.cons_append, List.nil_append, List.replicate_succ, List.replicate_zero, Nat.reduceSub, Nat.reduceAdd, Nat.reduceLT, true_and, and_true, if_true, Bool.false_eq_true, if_false, true_implies, false_implies, forall_const, decide_eq_true_eq, decide_eq_false_iff_not, Bool.not_eq_true', Bool.not_eq_false', reduceCtorEq]
  rw [tfb pre]
  exact q
end
end Pe.Pw
/-! Pe: drawn readings join two marks. -/
namespace Pe.Pw
open PySem
section
variable {FT : List Fn} {h : Hs} {Q : PV → Hs → Prop} {n d f : Nat}
end
end Pe.Pw
/-! Pe: the first light ring below 0 names each reading once. Plain. -/
namespace Pe.Pw
open PySem
/-- the number of an arc's reading -/
def ixA (r : Ar) : Nat := match r.s with
  | .tup (.int i :: _) => i.toNat
  | _ => 0
/-- drawn readings: two marks, low at most high -/
def Rd.ok (r : Rd) : Prop := r.a ≠ r.b ∧ ∀ u v, r.lo = some u → r.hi = some v → u ≤ v
theorem all_ix {rs : List Rd} {r : Ar} (h : r ∈ allA 0 rs) : ∃ rd, rs[ixA r]? = some rd ∧ ((r.s = .tup [.int (ixA r : Nat), .int 1] ∧ rd.hi = some r.w ∧ r.a = rd.a ∧ r.b = rd.b) ∨ (r.s = .tup [.int (ixA r : Nat), .int (-1)] ∧ rd.lo = some (-r.w) ∧ r.a = rd.b ∧ r.b = rd.a)) := by
  obtain ⟨i, rd, e, c⟩ := mem_allA rs 0 h
  rw [Nat.zero_add] at c
  have : ixA r = i := by
    unfold ixA
    rcases c with ⟨e, _⟩ | ⟨e, _⟩ <;> rw [e] <;> exact Int.toNat_natCast i
  rw [this]
  exact ⟨rd, e, c⟩
end Pe.Pw
/-! Pe: sets of readings that clash. -/
namespace Pe.Pw
open PySem
def nsD (js : List Nat) : List D := js.map fun j => D.int (j : Nat)
section
variable {FT : List Fn} {h : Hs} {Q : PV → Hs → Prop} {n d f m : Nat} {rs : List Rd} {js : List Nat}
/-- what uppers_of leans on -/
structure Ups (FT : List Fn) (uo : Nat) : Prop where
  ex : ∃ al fr ao wi sh ra, Is FT uo 2 2 (uppersOfB al fr ao) ∧ Is FT al 2 7 (alongBd wi) ∧ Is FT fr 1 3 freeB ∧ Is FT ao 1 4 (arcsOfB ra) ∧ Is FT ra 2 7 rarcsB ∧ Is FT wi 4 8 (withB sh) ∧ Is FT sh 3 6 shorterB
end
end Pe.Pw
/-! Pe: least sets that clash. -/
namespace Pe.Pw
open PySem
section
variable {FT : List Fn} {h : Hs} {Q : PV → Hs → Prop} {n d f m : Nat} {rs : List Rd} {js : List Nat}
end
end Pe.Pw
/-! Pe: sets of indexes; the told clash as a set. -/
namespace Pe.Pw
open PySem
theorem mem_insU {x y : Int} : ∀ {ys : List Int}, y ∈ insU x ys ↔ y = x ∨ y ∈ ys
  | [] => by simp [insU]
  | z :: ys => by
    unfold insU
    split
    · simp
    · split
      · rename_i h
        subst h
        simp
      · simp only [List.mem_cons, mem_insU (ys := ys)]
        constructor
        · rintro (h | h | h)
          · exact .inr (.inl h)
          · exact .inl h
          · exact .inr (.inr h)
        · rintro (h | h | h)
          · exact .inr (.inl h)
          · exact .inl h
          · exact .inr (.inr h)
theorem insU_sorted {x : Int} : ∀ {ys : List Int}, ys.Pairwise (· < ·) → (insU x ys).Pairwise (· < ·)
  | [], _ => by simp [insU]
  | z :: ys, h => by
    obtain ⟨h1, h2⟩ := List.pairwise_cons.mp h
    unfold insU
    split
    · rename_i lt
      refine List.pairwise_cons.mpr ⟨fun a ha => ?_, h⟩
      rcases List.mem_cons.mp ha with rfl | ha
      · exact lt
      · exact Int.lt_trans lt (h1 a ha)
    · split
      · exact h
      · refine List.pairwise_cons.mpr ⟨fun a ha => ?_, insU_sorted h2⟩
        rcases mem_insU.mp ha with rfl | ha
        · omega
        · exact h1 a ha
theorem setI_sorted : ∀ (ns : List Int), (setI ns).Pairwise (· < ·)
  | [] => .nil
  | n :: ns => insU_sorted (setI_sorted ns)
theorem mem_setI {y : Int} : ∀ {ns : List Int}, y ∈ setI ns ↔ y ∈ ns
  | [] => Iff.rfl
  | n :: ns => by
    show y ∈ insU n (setI ns) ↔ _
    rw [mem_insU, mem_setI, List.mem_cons]
section
variable {FT : List Fn} {h : Hs} {Q : PV → Hs → Prop} {n d f m : Nat} {rs : List Rd} {js : List Nat} {v : D}
def lclashB (ll la : Nat) : List S := [.ret (.call ll [(.var 0), (.call la [(.var 1)]), (.cst (.int 0))])]
theorem lclash_e {ll la lw ln lo : Nat} (is : Is FT f 2 2 (lclashB ll la)) (ill : Is FT ll 3 10 (llightB lw ln)) (ila : Is FT la 1 7 larcsB) (ilw : Is FT lw 2 6 (lwalksB lo)) (ilo : Is FT lo 3 12 llongerB) (iln : Is FT ln 6 15 lnamesB) (hm : m ≤ 1000) (hl : rs.length ≤ 1000) (hr : RdsIn m rs) (ok : ∀ r ∈ rs, r.a ≠ r.b) (hv : LightIs m (allA 0 rs) 0 v) : cal FT (d + 4) f [.d (.int m), .d (rsD rs)] h = some (.d v, h) := by
  refine eq_of_wp (is.call rfl ?_)
  unfold lclashB
  have al := allA_len rs 0
  simp only [Pe.Pw.ws, List.set_cons_zero, List.set_cons_succ, List.length_cons, List.length_nil, List.map_cons, List.map_nil, List.cons_append, List.nil_append, List.replicate_succ, List.replicate_zero, Nat.reduceSub, Nat.reduceAdd, Nat.reduceLT, true_and, and_true, if_true, Bool.false_eq_true, if_false, true_implies, false_implies, forall_const, decide_eq_true_eq, decide_eq_false_iff_not, Bool.not_eq_true', Bool.not_eq_false', reduceCtorEq, w_iff (larcs_e (h := h) (d := d + 2) ila hl)]
  refine ill.call rfl ?_
  rw [convs_cons, conv_d, convs_cons, conv_tld, convs_cons, conv_d, convs_nil]
  dsimp only
  refine llight_c (d := d) (by simp) ilw ilo iln (List.getElem?_concat_length ..) (fun x hx => arA_in hr hx) hm (by omega) (fun x hx => ?_) hv ?_
  · obtain ⟨rd, e, c⟩ := all_ix hx
    have := ok rd (List.mem_of_getElem? e)
    rcases c with ⟨_, _, e1, e2⟩ | ⟨_, _, e1, e2⟩ <;> rw [e1, e2]
    · exact this
    · exact this.symm
  rw [List.take_left, lv_d, take_self]
  exact ⟨rfl, rfl⟩
/-- what the told clash is as a set -/
inductive DueIs (m : Nat) (rs : List Rd) : D → D → Prop
  | no : LightIs m (allA 0 rs) 0 .non → DueIs m rs .non .non
  | ring {l : List Ar} {js : List Nat} : LightIs m (allA 0 rs) 0 (.tup (l.map Ar.s)) → (∀ r ∈ l, r ∈ allA 0 rs) → (l.map ixA).Nodup → 0 < l.length → l.length ≤ m → js.Perm (l.map ixA) → sortI ((l.map ixA).map fun j : Nat => (j : Int)) = (js.map fun j : Nat => (j : Int)) → DueIs m rs (.tup (l.map Ar.s)) (.tup (nsD js))
theorem DueIs.light {v w : D} (h : DueIs m rs v w) : LightIs m (allA 0 rs) 0 v := by
  cases h <;> assumption
end
end Pe.Pw
/-! Pe: readings with a ring below 0, drawn: they join two marks, low at most high. -/
namespace Pe.Pw
open PySem
section
variable {FT : List Fn} {h : Hs} {Q : PV → Hs → Prop} {n d f : Nat}
end
end Pe.Pw
/-! Pe: is_ring, is_clash; a light ring below 0 is there just where the readings clash. -/
namespace Pe.Pw
open PySem
section
variable {FT : List Fn} {h : Hs} {Q : PV → Hs → Prop} {n d f m : Nat} {rs : List Rd} {l : List Ar}
def isRingB (sd se iw : Nat) : List S := [.ife (.orr (.nt (.blt (.isi [.tuple]) [(.var 2)])) (.orr (.cmp .lt (.blt .len [(.var 2)]) (.cst (.int 2))) (.nt (.call sd [(.var 1), (.idx (.var 2) (.cst (.int 0)))])))) [.ret (.cst (.bl false))] [], .asg (.nm 3) (.idx (.call se [(.var 1), (.idx (.var 2) (.cst (.int 0)))]) (.cst (.int 0))), .ife (.nt (.call iw [(.var 0), (.var 1), (.var 3), (.var 3), (.var 2)])) [.ret (.cst (.bl false))] [], .ret (.cmp .eq (.lsc [4] (.nm 4) (.seq (.var 2)) false (.cst (.bl true)) (.idx (.call se [(.var 1), (.var 4)]) (.cst (.int 0)))) (.blt .len [(.var 2)]))]
def isClashRB (ri ww : Nat) : List S := [.ret (.an (.call ri [(.var 0), (.var 1), (.var 2)]) (.cmp .lt (.call ww [(.var 1), (.var 2)]) (.cst (.int 0))))]
end
end Pe.Pw
/-! Pe: tables of bounds that meet; hulls; tables within tables; stiff groups. -/
namespace Pe.Pw
open PySem
/-! arcs that tell the same least ways. Plain. -/
def Dom (A B : List Clo.Arc) : Prop := ∀ a b w, (a, b, w) ∈ A → ∃ v, Clo.Way B a b v ∧ v ≤ w
theorem Dom.way {A B : List Clo.Arc} (h : Dom A B) {x y : Nat} {u : Int} (w : Clo.Way A x y u) : ∃ v, Clo.Way B x y v ∧ v ≤ u := by
  induction w with
  | nil x => exact ⟨0, .nil x, Int.le_refl _⟩
  | @cons a b y w v m _ ih =>
    obtain ⟨p, wp, lp⟩ := h a b w m
    obtain ⟨q, wq, lq⟩ := ih
    exact ⟨p + q, wp.app wq, by omega⟩
theorem Dom.app {A B C : List Clo.Arc} (h : Dom A C) (g : Dom B C) : Dom (A ++ B) C := fun a b w m => by
  rcases List.mem_append.mp m with m | m
  · exact h a b w m
  · exact g a b w m
theorem Dom.trans {A B C : List Clo.Arc} (h : Dom A B) (g : Dom B C) : Dom A C := fun a b w m => by
  obtain ⟨v, wv, l⟩ := h a b w m
  obtain ⟨u, wu, l2⟩ := g.way wv
  exact ⟨u, wu, by omega⟩
theorem Dom.clash {m : Nat} {A B : List Clo.Arc} (h : Dom A B) (c : Clo.Clash m A) : Clo.Clash m B := by
  obtain ⟨x, v, hx, w, hv⟩ := c
  obtain ⟨u, wu, l⟩ := h.way w
  exact ⟨x, u, hx, wu, by omega⟩
/-! the readings that a table tells -/
/-! tables of data -/
section
variable {FT : List Fn} {h : Hs} {Q : PV → Hs → Prop} {n d f m : Nat} {rs : List Rd} {F G : Clo.Tb}
end
end Pe.Pw
/-! Pe: hulls, tables within tables. -/
namespace Pe.Pw
open PySem
section
variable {cf : Nat → List PV → M PV} {fb : Nat} {env : Env} {h : Hs} {I : ItV → Hs → Prop} {Q : PV → Hs → Prop}
end
section
variable {FT : List Fn} {h : Hs} {Q : PV → Hs → Prop} {n d f m : Nat} {rs : List Rd} {F G : Clo.Tb}
end
end Pe.Pw
/-! Pe: tables that meet; stiff groups. -/
namespace Pe.Pw
open PySem
section
variable {FT : List Fn} {h : Hs} {Q : PV → Hs → Prop} {n d f m : Nat} {rs : List Rd} {F G : Clo.Tb}
end
end Pe.Pw
/-! Pe: the law's own tables of readings that lie in a list. -/
namespace Pe.Pw
open PySem
section
variable {FT : List Fn} {h : Hs} {Q : PV → Hs → Prop} {n d f : Nat} {M : Mx} {ns : List Nat} {m : Nat}
end
end Pe.Pw
/-! Pe: things bent at drawn places. -/
namespace Pe.Pw
open PySem
/-- no truth values; at most N long, at most k deep -/
def Bd (N : Nat) : Nat → D → Prop
  | _, .non => True
  | _, .int _ => True
  | _, .bl _ => False
  | _, .str s => s.length ≤ N
  | 0, .tup _ => False
  | k + 1, .tup xs => xs.length ≤ N ∧ ∀ x ∈ xs, Bd N k x
theorem Bd.mono {N M : Nat} (h : N ≤ M) : ∀ {k l : Nat} {x : D}, k ≤ l → Bd N k x → Bd M l x
  | k, l, .non, _, _ => by cases l <;> exact True.intro
  | k, l, .int _, _, _ => by cases l <;> exact True.intro
  | k, l, .bl _, _, b => by cases k <;> exact b.elim
  | k, l, .str s, _, b => by
    have b : s.length ≤ N := by cases k <;> exact b
    cases l <;> exact Nat.le_trans b h
  | 0, l, .tup _, _, b => b.elim
  | k + 1, 0, .tup _, h2, _ => absurd h2 (by omega)
  | k + 1, l + 1, .tup xs, h2, b => ⟨Nat.le_trans b.1 h, fun x hx => Bd.mono h (Nat.le_of_succ_le_succ h2) (b.2 x hx)⟩
section
variable {FT : List Fn} {h : Hs} {Q : PV → Hs → Prop} {n d f : Nat}
def oddB (pk : Nat) : List S := [.ret (.call pk [(.var 0), (.lst [(.cst .non), (.cst (.int 7)), (.cst (.str (Str.ofString "ab"))), (.tup []), (.tup [(.tup [])]), (.tup [(.cst (.str (Str.ofString "ab")))]), (.tup [(.cst .non)]), (.tup [(.tup [(.cst (.int 0)), (.cst (.str (Str.ofString "ab")))])]), (.tup [(.cst (.int 0))]), (.tup [(.tup [(.cst (.int 0)), (.cst (.int 1))]), (.tup [(.cst (.int 1)), (.cst (.int 1))])])])])]
theorem ab_len : (Str.ofString "ab").length = 2 := by decide +kernel
def leafB (pk : Nat) : List S := [.ife (.cmp .isN (.var 1) (.cst .non)) [.ret (.call pk [(.var 0), (.lst [(.cst (.int 0)), (.cst (.str (Str.ofString "ab"))), (.tup [])])])] [], .ife (.blt (.isi [.str]) [(.var 1)]) [.ret (.call pk [(.var 0), (.lst [(.bin .add (.var 1) (.cst (.str (Str.ofString "a")))), (.cst (.int 0)), (.cst .non), (.tup [(.var 1)])])])] [], .ret (.call pk [(.var 0), (.lst [(.bin .add (.var 1) (.cst (.int 1))), (.bin .sub (.var 1) (.cst (.int 1))), (.bin .add (.var 1) (.cst (.int 1))), (.bin .sub (.var 1) (.cst (.int 1))), (.cst .non), (.bin .sub (.un .neg (.cst (.int 1))) (.var 1)), (.bin .add (.var 1) (.bin .pow (.cst (.int 10)) (.cst (.int 20)))), (.cst (.str (Str.ofString "ab"))), (.tup [])])])]
def bentB (lf tk pu be pk : Nat) : List S := [.ife (.nt (.blt (.isi [.tuple]) [(.var 1)])) [.ret (.call lf [(.var 0), (.var 1)])] [], .ife (.cmp .eq (.blt .len [(.var 1)]) (.cst (.int 0))) [.ret (.call pk [(.var 0), (.lst [(.tup [(.cst (.int 0))]), (.tup [(.tup [(.cst (.int 0)), (.cst (.int 1))])]), (.cst .non), (.tup [(.cst (.str (Str.ofString "ab")))])])])] [], .asg (.nm 2) (.call tk [(.var 0), (.blt .len [(.var 1)])]), .asg (.nm 3) (.call tk [(.var 0), (.cst (.int 8))]), .ife (.cmp .eq (.var 3) (.cst (.int 0))) [.ret (.bin .add (.slc false true (.var 1) (.cst .non) (.var 2)) (.slc true false (.var 1) (.bin .add (.var 2) (.cst (.int 1))) (.cst .non)))] [], .ife (.cmp .eq (.var 3) (.cst (.int 1))) [.ret (.bin .add (.bin .add (.slc false true (.var 1) (.cst .non) (.var 2)) (.tup [(.idx (.var 1) (.var 2))])) (.slc true false (.var 1) (.var 2) (.cst .non)))] [], .ife (.cmp .eq (.var 3) (.cst (.int 2))) [.asg (.nm 4) (.bin .mod (.blt .int [(.bin .add (.var 2) (.cst (.int 1)))]) (.blt .len [(.var 1)])), .ret (.call pu [(.call pu [(.var 1), (.var 2), (.idx (.var 1) (.var 4))]), (.var 4), (.idx (.var 1) (.var 2))])] [], .ret (.call pu [(.var 1), (.var 2), (.call be [(.var 0), (.idx (.var 1) (.var 2))])])]
theorem at_get {ds : List D} {j : Nat} (hj : j < ds.length) : L2.atI ds (j : Int) = some ds[j] := by
  rw [atI_nat, List.getElem?_eq_getElem hj]
end
end Pe.Pw
/-! Pe: what is a table of bounds. -/
namespace Pe.Pw
open PySem
def isIntD : D → Bool
  | .int _ => true
  | _ => false
def rowK (k : Nat) : D → Bool
  | .tup es => decide (es.length = k)
  | _ => false
section
variable {FT : List Fn} {h : Hs} {Q : PV → Hs → Prop} {n d f m : Nat} {rs : List Rd} {L H : Clo.Tb}
theorem at2_0 {a b : D} : L2.atI [a, b] 0 = some a := rfl
theorem at2_1 {a b : D} : L2.atI [a, b] 1 = some b := rfl
theorem isNum_g (is : Is FT f 1 1 isNumB) {x : D} : cal FT (d + 1) f [.d x] h = some (.d (.bl (isIntD x)), h) := by
  refine eq_of_wp (is.call rfl ?_)
  unfold isNumB
  cases x <;> simp only [Pe.Pw.ws, List.set_cons_zero, List.set_cons_succ, List.length_cons, List.length_nil, List.map_cons, List.map_nil, List.cons_append, List.nil_append, List.replicate_succ, List.replicate_zero, Nat.reduceSub, Nat.reduceAdd, Nat.reduceLT, true_and, and_true, if_true, Bool.false_eq_true, if_false, true_implies, false_implies, forall_const, decide_eq_true_eq, decide_eq_false_iff_not, Bool.not_eq_true', Bool.not_eq_false', reduceCtorEq, tyIs, List.any_cons, List.any_nil, Bool.or_false, take_self, isIntD, Bool.not_true, Bool.not_false]
theorem isRow_g (is : Is FT f 2 2 isRowB) {x : D} {k : Nat} : cal FT (d + 1) f [.d x, .d (.int (k : Nat))] h = some (.d (.bl (rowK k x)), h) := by
  refine eq_of_wp (is.call rfl ?_)
  unfold isRowB
  cases x <;> simp only [Pe.Pw.ws, List.set_cons_zero, List.set_cons_succ, List.length_cons, List.length_nil, List.map_cons, List.map_nil, List.cons_append, List.nil_append, List.replicate_succ, List.replicate_zero, Nat.reduceSub, Nat.reduceAdd, Nat.reduceLT, true_and, and_true, if_true, Bool.false_eq_true, if_false, true_implies, false_implies, forall_const, decide_eq_true_eq, decide_eq_false_iff_not, Bool.not_eq_true', Bool.not_eq_false', reduceCtorEq, tyIs, List.any_cons, List.any_nil, Bool.or_false, take_self, rowK]
  rename_i es
  have : decide ((es.length : Int) = (k : Int)) = decide (es.length = k) := decide_eq_decide.mpr (by omega)
  rw [this]
end
end Pe.Pw
/-! Pe: readings of the plane, turned. -/
namespace Pe.Pw
open PySem
structure Pr where
  a : Nat
  b : Nat
  al : Option Int
  ah : Option Int
  rl : Option Int
  rh : Option Int
def boD (l h : Option Int) : D := .tup [oi l, oi h]
def Pr.D (p : Pr) : D := .tup [.int (p.a : Nat), .int (p.b : Nat), boD p.al p.ah, boD p.rl p.rh]
def FsOk (m : Nat) (fs : List Nat) : Prop := fs.length = m ∧ ∀ f ∈ fs, f < 4
theorem FsOk.at {m : Nat} {fs : List Nat} (h : FsOk m fs) {k : Nat} (hk : k < m) : L2.atI (nsD fs) (k : Int) = some (.int (fs.getD k 0 : Nat)) ∧ fs.getD k 0 < 4 := by
  have hk2 : k < fs.length := by rw [h.1]; exact hk
  have e : fs.getD k 0 = fs[k] := by
    rw [List.getD_eq_getElem?_getD, List.getElem?_eq_getElem hk2]
    rfl
  rw [e]
  refine ⟨?_, h.2 _ (List.getElem_mem hk2)⟩
  unfold nsD
  rw [atI_nat, List.getElem?_map, List.getElem?_eq_getElem hk2]
  rfl
section
variable {FT : List Fn} {h : Hs} {Q : PV → Hs → Prop} {n d f m : Nat} {ps : List Pr} {fs : List Nat}
end
end Pe.Pw
/-! Pe: readings of the plane turned to lines; places and clashes of the plane. -/
namespace Pe.Pw
open PySem
section
variable {FT : List Fn} {h : Hs} {Q : PV → Hs → Prop} {n d f m : Nat} {ps : List Pr} {fs : List Nat}
/-! fits -/
end
end Pe.Pw
/-! Pe: places and clashes of the plane; what fits the plane. -/
namespace Pe.Pw
open PySem
section
variable {FT : List Fn} {h : Hs} {Q : PV → Hs → Prop} {n d f m : Nat} {ps : List Pr} {fs : List Nat}
end
end Pe.Pw
/-! Pe: what fits the plane. -/
namespace Pe.Pw
open PySem
section
variable {FT : List Fn} {h : Hs} {Q : PV → Hs → Prop} {n d f m : Nat} {ps : List Pr} {fs : List Nat} {X Y : List Rd}
end
end Pe.Pw
/-! Pe: readings of the plane, drawn. -/
namespace Pe.Pw
open PySem
def st2 (k : Nat) (x y : Int) : Int := if k = 0 then x else if k = 1 then -y else if k = 2 then -x else y
section
variable {FT : List Fn} {h : Hs} {Q : PV → Hs → Prop} {n d f m : Nat} {ps : List Pr} {fs : List Nat} {X Y : List Rd}
end
end Pe.Pw
/-! Pe: facings that fit. -/
namespace Pe.Pw
open PySem
section
variable {FT : List Fn} {h : Hs} {Q : PV → Hs → Prop} {n d f m : Nat} {ps : List Pr} {fs : List Nat}
end
end Pe.Pw
/-! Pe: facings that fit, and what they agree on. -/
namespace Pe.Pw
open PySem
theorem fm_filter {α β : Type} (p : α → Bool) (g : α → β) : ∀ l : List α, l.filterMap (fun x => if p x then some (g x) else none) = (l.filter p).map g
  | [] => rfl
  | x :: l => by
    have ih := fm_filter p g l
    rw [List.filterMap_cons, List.filter_cons]
    cases p x with
    | true => simp [ih]
    | false => simp [ih]
section
variable {FT : List Fn} {h : Hs} {Q : PV → Hs → Prop} {n d f m : Nat} {ps : List Pr} {fs : List Nat} {rows : List (List Nat)} {J : Nat → Bool}
end
end Pe.Pw
/-! Pe: things bent at drawn places, their texts sound. -/
namespace Pe.Pw
open PySem
/-- no truth values; at most N long, at most k deep -/
def Be (N : Nat) : Nat → D → Prop
  | _, .non => True
  | _, .int _ => True
  | _, .bl _ => False
  | _, .str s => SOk N s
  | 0, .tup _ => False
  | k + 1, .tup xs => xs.length ≤ N ∧ ∀ x ∈ xs, Be N k x
theorem Be.mono {N M : Nat} (h : N ≤ M) : ∀ {k l : Nat} {x : D}, k ≤ l → Be N k x → Be M l x
  | k, l, .non, _, _ => by cases l <;> exact True.intro
  | k, l, .int _, _, _ => by cases l <;> exact True.intro
  | k, l, .bl _, _, b => by cases k <;> exact b.elim
  | k, l, .str s, _, b => by
    have b : SOk N s := by cases k <;> exact b
    cases l <;> exact b.mono h
  | 0, l, .tup _, _, b => b.elim
  | k + 1, 0, .tup _, h2, _ => absurd h2 (by omega)
  | k + 1, l + 1, .tup xs, h2, b => ⟨Nat.le_trans b.1 h, fun x hx => Be.mono h (Nat.le_of_succ_le_succ h2) (b.2 x hx)⟩
section
variable {FT : List Fn} {h : Hs} {Q : PV → Hs → Prop} {n d f : Nat}
theorem be_sm {N : Nat} (hN : N ≤ 100000) : ∀ {k : Nat} {x : D}, Be N k x → Sm k x
  | k, .non, _ => by cases k <;> exact True.intro
  | k, .int _, _ => by cases k <;> exact True.intro
  | k, .bl _, b => by cases k <;> exact b.elim
  | k, .str s, b => by
    have b : SOk N s := by cases k <;> exact b
    cases k <;> exact b.1
  | 0, .tup _, b => b.elim
  | k + 1, .tup xs, b => ⟨sz (by have := b.1; omega), fun x hx => be_sm hN (b.2 x hx)⟩
theorem be_nb {N : Nat} : ∀ {k : Nat} {x : D}, Be N k x → nbD x = true
  | _, .non, _ => rfl
  | _, .int _, _ => rfl
  | k, .bl _, b => by cases k <;> exact b.elim
  | _, .str _, _ => rfl
  | 0, .tup _, b => b.elim
  | k + 1, .tup xs, b => by
    rw [nbD]
    exact nbs_iff.mpr fun y hy => be_nb (b.2 y hy)
theorem odd_e {tk pk : Nat} (is : Is FT f 1 1 (oddB pk)) (it : Is FT tk 2 2 takeB) (ip : Is FT pk 2 2 (pickB tk)) (a : Dr n h) (q : ∀ (x : D) h1, Be 2 2 x → Dn n h h1 → Q (.d x) h1) : Wp (cal FT (d + 3) f [.ref n]) h Q := by
  refine is.call rfl ?_
  unfold oddB
  simp only [Pe.Pw.ws, List.set_cons_zero, List.set_cons_succ, List.length_cons, List.length_nil, List.map_cons, List.map_nil, List.cons_append, List.nil_append, List.replicate_succ, List.replicate_zero, Nat.reduceSub, Nat.reduceAdd, Nat.reduceLT, true_and, and_true, if_true, Bool.false_eq_true, if_false, true_implies, false_implies, forall_const, decide_eq_true_eq, decide_eq_false_iff_not, Bool.not_eq_true', Bool.not_eq_false', reduceCtorEq, mkTup_1, mkTup_2]
  refine ⟨sz, sz, sz, sz, sz, sz, sz, sz, sz, sz, sz, sz, ?_⟩
  refine pick_w2 ip it rfl (by decide) a fun x h2 hx b2 => ?_
  rw [lv_d, b2.take0]
  refine q x h2 ?_ b2
  have e2 : SOk 2 (Str.ofString "ab") := ⟨by decide +kernel, Nat.le_of_eq ab_len⟩
  simp only [List.mem_cons, List.not_mem_nil, or_false] at hx
  rcases hx with rfl | rfl | rfl | rfl | rfl | rfl | rfl | rfl | rfl | rfl <;> simp [Be, e2]
theorem leaf_e {tk pk N k : Nat} {x : D} (is : Is FT f 2 2 (leafB pk)) (it : Is FT tk 2 2 takeB) (ip : Is FT pk 2 2 (pickB tk)) (hN : 2 ≤ N) (hN2 : N ≤ 1000) (hx : Be N k x) (nt : ∀ ds, x ≠ .tup ds) (a : Dr n h) (q : ∀ (y : D) h1, Be (N + 1) 1 y → Dn n h h1 → Q (.d y) h1) : Wp (cal FT (d + 3) f [.ref n, .d x]) h Q := by
  refine is.call rfl ?_
  unfold leafB
  have hz : sizeLine = 2 ^ 24 := rfl
  have e2 : SOk (N + 1) (Str.ofString "ab") := ⟨by decide +kernel, Nat.le_trans (Nat.le_of_eq ab_len) (by omega)⟩
  cases x with
  | tup ds => exact absurd rfl (nt ds)
  | bl b => cases k <;> exact hx.elim
  | non =>
    simp only [Pe.Pw.ws, List.set_cons_zero, List.set_cons_succ, List.length_cons, List.length_nil, List.map_cons, List.map_nil, List.cons_append, List.nil_append, List.replicate_succ, List.replicate_zero, Nat.reduceSub, Nat.reduceAdd, Nat.reduceLT, true_and, and_true, if_true, Bool.false_eq_true, if_false, true_implies, false_implies, forall_const, decide_eq_true_eq, decide_eq_false_iff_not, Bool.not_eq_true', Bool.not_eq_false', reduceCtorEq, isNon]
    refine ⟨sz, sz, ?_⟩
    refine pick_w2 ip it rfl (by decide) a fun y h2 hy b2 => ?_
    rw [lv_d, b2.take0]
    refine q y h2 ?_ b2
    simp only [List.mem_cons, List.not_mem_nil, or_false] at hy
    rcases hy with rfl | rfl | rfl <;> simp [Be, e2]
  | str s =>
    have hs0 : SOk N s := by cases k <;> exact hx
    have hs : s.length ≤ N := hs0.2
    have l1 : (Str.ofString "a").length = 1 := by decide +kernel
    simp only [Pe.Pw.ws, List.set_cons_zero, List.set_cons_succ, List.length_cons, List.length_nil, List.map_cons, List.map_nil, List.cons_append, List.nil_append, List.replicate_succ, List.replicate_zero, Nat.reduceSub, Nat.reduceAdd, Nat.reduceLT, true_and, and_true, if_true, Bool.false_eq_true, if_false, true_implies, false_implies, forall_const, decide_eq_true_eq, decide_eq_false_iff_not, Bool.not_eq_true', Bool.not_eq_false', reduceCtorEq, isNon, tyIs, List.any_cons, List.any_nil, Bool.or_false, mkTup_1]
    have ls : (s ++ Str.ofString "a").length ≤ N + 1 := by
      show (s.cps ++ (Str.ofString "a").cps).size ≤ N + 1
      rw [Array.size_append]
      have l1 : (Str.ofString "a").cps.size = 1 := l1
      have hs : s.cps.size ≤ N := hs
      omega
    refine ⟨by omega, sz, sz, ?_⟩
    refine pick_w2 ip it rfl (by simp) a fun y h2 hy b2 => ?_
    rw [lv_d, b2.take0]
    refine q y h2 ?_ b2
    simp only [List.mem_cons, List.not_mem_nil, or_false] at hy
    rcases hy with rfl | rfl | rfl | rfl
    · refine ⟨?_, ls⟩
      have a1 : s.cps.all (· < 0x110000) = true := hs0.1
      have a2 : (Str.ofString "a").cps.all (· < 0x110000) = true := by decide +kernel
      show (s.cps ++ (Str.ofString "a").cps).all (· < 0x110000) = true
      rw [Array.all_append, a1, a2]
      rfl
    · exact True.intro
    · exact True.intro
    · exact ⟨by simp, fun x hx => by rw [List.mem_singleton.mp hx]; exact hs0.mono (Nat.le_succ N)⟩
  | int i =>
    simp only [Pe.Pw.ws, List.set_cons_zero, List.set_cons_succ, List.length_cons, List.length_nil, List.map_cons, List.map_nil, List.cons_append, List.nil_append, List.replicate_succ, List.replicate_zero, Nat.reduceSub, Nat.reduceAdd, Nat.reduceLT, true_and, and_true, if_true, Bool.false_eq_true, if_false, true_implies, false_implies, forall_const, decide_eq_true_eq, decide_eq_false_iff_not, Bool.not_eq_true', Bool.not_eq_false', reduceCtorEq, isNon, tyIs, List.any_cons, List.any_nil, Bool.or_false]
    refine ⟨by decide, sz, sz, ?_⟩
    refine pick_w2 ip it rfl (by simp) a fun y h2 hy b2 => ?_
    rw [lv_d, b2.take0]
    refine q y h2 ?_ b2
    simp only [List.mem_cons, List.not_mem_nil, or_false] at hy
    rcases hy with rfl | rfl | rfl | rfl | rfl | rfl | rfl | rfl | rfl <;> simp [Be, e2]
theorem bent_e {lf tk pu pk N : Nat} (is : Is FT f 2 5 (bentB lf tk pu f pk)) (ilf : Is FT lf 2 2 (leafB pk)) (ipu : Is FT pu 3 3 putB) (it : Is FT tk 2 2 takeB) (ip : Is FT pk 2 2 (pickB tk)) (hN : 2 ≤ N) (hN2 : N ≤ 1000) : ∀ (k : Nat) (x : D) (h : Hs) (Q : PV → Hs → Prop), Be N k x → Dr n h → (∀ (y : D) h1, Be (N + 1) (k + 2) y → Dn n h h1 → Q (.d y) h1) → Wp (cal FT (d + k + 4) f [.ref n, .d x]) h Q := by
  intro k
  induction k with
  | zero =>
    intro x h Q hx a q
    have nt : ∀ ds, x ≠ .tup ds := fun ds e => by
      subst e
      exact hx.elim
    have ty : tyIs h (.d x) .tuple = false := by
      cases x <;> first | rfl | exact absurd rfl (nt _)
    refine is.call rfl ?_
    unfold bentB
    simp only [Pe.Pw.ws, List.set_cons_zero, List.set_cons_succ, List.length_cons, List.length_nil, List.map_cons, List.map_nil, List.cons_append, List.nil_append, List.replicate_succ, List.replicate_zero, Nat.reduceSub, Nat.reduceAdd, Nat.reduceLT, true_and, and_true, if_true, Bool.false_eq_true, if_false, true_implies, false_implies, forall_const, decide_eq_true_eq, decide_eq_false_iff_not, Bool.not_eq_true', Bool.not_eq_false', reduceCtorEq, List.any_cons, List.any_nil, Bool.or_false, ty, Bool.not_false]
    refine leaf_e (d := d) ilf it ip hN hN2 hx nt a fun y h1 hy b => ?_
    rw [lv_d, b.take0]
    exact q y h1 (hy.mono (Nat.le_refl _) (by omega)) b
  | succ k ih =>
    intro x h Q hx a q
    refine is.call rfl ?_
    unfold bentB
    have hz : sizeLine = 2 ^ 24 := rfl
    by_cases nt : ∀ ds, x ≠ .tup ds
    · have ty : tyIs h (.d x) .tuple = false := by
        cases x <;> first | rfl | exact absurd rfl (nt _)
      simp only [Pe.Pw.ws, List.set_cons_zero, List.set_cons_succ, List.length_cons, List.length_nil, List.map_cons, List.map_nil, List.cons_append, List.nil_append, List.replicate_succ, List.replicate_zero, Nat.reduceSub, Nat.reduceAdd, Nat.reduceLT, true_and, and_true, if_true, Bool.false_eq_true, if_false, true_implies, false_implies, forall_const, decide_eq_true_eq, decide_eq_false_iff_not, Bool.not_eq_true', Bool.not_eq_false', reduceCtorEq, List.any_cons, List.any_nil, Bool.or_false, ty, Bool.not_false]
      refine leaf_e (d := d + k + 1) ilf it ip hN hN2 hx nt a fun y h1 hy b => ?_
      rw [lv_d, b.take0]
      exact q y h1 (hy.mono (Nat.le_refl _) (by omega)) b
    · obtain ⟨ds, rfl⟩ : ∃ ds, x = .tup ds := by
        cases x with
        | tup ds => exact ⟨ds, rfl⟩
        | _ => exact absurd (fun ds e => by cases e) nt
      obtain ⟨hl, hd⟩ := hx
      have ty : tyIs h (.d (.tup ds)) .tuple = true := rfl
      have up : ∀ x ∈ ds, Be (N + 1) (k + 2) x := fun x hx => (hd x hx).mono (by omega) (by omega)
      have fin : ∀ (ys : List D) h1, ys.length ≤ N + 1 → (∀ y ∈ ys, Be (N + 1) (k + 2) y) → Dn n h h1 → Q (.d (.tup ys)) (h1.take h.length) := fun ys h1 l m b => by
        rw [b.take0]
        exact q _ h1 ⟨l, m⟩ b
      refine w_cut (fun e hh => hh = h ∧ e = [some (.ref n), some (.d (.tup ds)), none, none, none]) ?_ ?_
      · simp only [Pe.Pw.ws, List.set_cons_zero, List.set_cons_succ, List.length_cons, List.length_nil, List.map_cons, List.map_nil, List.cons_append, List.nil_append, List.replicate_succ, List.replicate_zero, Nat.reduceSub, Nat.reduceAdd, Nat.reduceLT, true_and, and_true, if_true, Bool.false_eq_true, if_false, true_implies, false_implies, forall_const, decide_eq_true_eq, decide_eq_false_iff_not, Bool.not_eq_true', Bool.not_eq_false', reduceCtorEq, List.any_cons, List.any_nil, Bool.or_false, ty, Bool.not_true]
      rintro _ h ⟨rfl, rfl⟩
      by_cases h0 : ds.length = 0
      · have e2 : SOk (N + 1) (Str.ofString "ab") := ⟨by decide +kernel, Nat.le_trans (Nat.le_of_eq ab_len) (by omega)⟩
        have c0 : ((ds.length : Nat) : Int) = 0 := by omega
        refine w_cut (fun _ _ => False) ?_ (fun _ _ z => z.elim)
        simp only [Pe.Pw.ws, List.set_cons_zero, List.set_cons_succ, List.length_cons, List.length_nil, List.map_cons, List.map_nil, List.cons_append, List.nil_append, List.replicate_succ, List.replicate_zero, Nat.reduceSub, Nat.reduceAdd, Nat.reduceLT, true_and, and_true, if_true, Bool.false_eq_true, if_false, true_implies, false_implies, forall_const, decide_eq_true_eq, decide_eq_false_iff_not, Bool.not_eq_true', Bool.not_eq_false', reduceCtorEq, mkTup_1, mkTup_2]
        refine ⟨fun _ => ⟨sz, sz, sz, sz, sz, ?_⟩, fun z => z c0⟩
        refine pick_w2 ip it rfl (by decide) a fun y h2 hy b2 => ?_
        rw [lv_d, b2.take0]
        refine q y h2 ?_ b2
        simp only [List.mem_cons, List.not_mem_nil, or_false] at hy
        rcases hy with rfl | rfl | rfl | rfl <;> simp [Be, e2]
        omega
      · have c0 : ¬ ((ds.length : Nat) : Int) = 0 := by omega
        refine w_cut (fun e hh => hh = h ∧ e = [some (.ref n), some (.d (.tup ds)), none, none, none]) ?_ ?_
        · simp only [Pe.Pw.ws, List.set_cons_zero, List.set_cons_succ, List.length_cons, List.length_nil, List.map_cons, List.map_nil, List.cons_append, List.nil_append, List.replicate_succ, List.replicate_zero, Nat.reduceSub, Nat.reduceAdd, Nat.reduceLT, true_and, and_true, if_true, Bool.false_eq_true, if_false, true_implies, false_implies, forall_const, decide_eq_true_eq, decide_eq_false_iff_not, Bool.not_eq_true', Bool.not_eq_false', reduceCtorEq, c0]
          exact fun _ => True.intro
        rintro _ h ⟨rfl, rfl⟩
        refine w_cut (fun e hh => ∃ j : Nat, j < ds.length ∧ Dn n h hh ∧ e = [some (.ref n), some (.d (.tup ds)), some (.d (.int (j : Nat))), none, none]) ?_ ?_
        · simp only [Pe.Pw.ws, List.set_cons_zero, List.set_cons_succ, List.length_cons, List.length_nil, List.map_cons, List.map_nil, List.cons_append, List.nil_append, List.replicate_succ, List.replicate_zero, Nat.reduceSub, Nat.reduceAdd, Nat.reduceLT, true_and, and_true, if_true, Bool.false_eq_true, if_false, true_implies, false_implies, forall_const, decide_eq_true_eq, decide_eq_false_iff_not, Bool.not_eq_true', Bool.not_eq_false', reduceCtorEq]
          refine take_w it (by omega) a fun r h1 r0 r1 b => ?_
          obtain ⟨j, rfl⟩ := Int.eq_ofNat_of_zero_le r0
          simp only [Pe.Pw.ws, List.set_cons_zero, List.set_cons_succ, List.length_cons, List.length_nil, List.map_cons, List.map_nil, List.cons_append, List.nil_append, List.replicate_succ, List.replicate_zero, Nat.reduceSub, Nat.reduceAdd, Nat.reduceLT, true_and, and_true, if_true, Bool.false_eq_true, if_false, true_implies, false_implies, forall_const, decide_eq_true_eq, decide_eq_false_iff_not, Bool.not_eq_true', Bool.not_eq_false', reduceCtorEq]
          exact ⟨j, by omega, b, rfl⟩
        rintro _ h1 ⟨j, hj, b1, rfl⟩
        refine w_cut (fun e hh => ∃ w : Int, Dn n h hh ∧ e = [some (.ref n), some (.d (.tup ds)), some (.d (.int (j : Nat))), some (.d (.int w)), none]) ?_ ?_
        · simp only [Pe.Pw.ws, List.set_cons_zero, List.set_cons_succ, List.length_cons, List.length_nil, List.map_cons, List.map_nil, List.cons_append, List.nil_append, List.replicate_succ, List.replicate_zero, Nat.reduceSub, Nat.reduceAdd, Nat.reduceLT, true_and, and_true, if_true, Bool.false_eq_true, if_false, true_implies, false_implies, forall_const, decide_eq_true_eq, decide_eq_false_iff_not, Bool.not_eq_true', Bool.not_eq_false', reduceCtorEq]
          refine take_w it (by decide) (b1.dr a) fun r h1 r0 r1 b => ?_
          simp only [Pe.Pw.ws, List.set_cons_zero, List.set_cons_succ, List.length_cons, List.length_nil, List.map_cons, List.map_nil, List.cons_append, List.nil_append, List.replicate_succ, List.replicate_zero, Nat.reduceSub, Nat.reduceAdd, Nat.reduceLT, true_and, and_true, if_true, Bool.false_eq_true, if_false, true_implies, false_implies, forall_const, decide_eq_true_eq, decide_eq_false_iff_not, Bool.not_eq_true', Bool.not_eq_false', reduceCtorEq]
          exact ⟨r, b1.trans b, rfl⟩
        clear b1 h1
        rintro _ h1 ⟨w, b1, rfl⟩
        have ek : ((j : Int) + 1) = ((j + 1 : Nat) : Int) := by omega
        have ej := at_get hj
        refine w_cut (fun e hh => hh = h1 ∧ e = [some (.ref n), some (.d (.tup ds)), some (.d (.int (j : Nat))), some (.d (.int w)), none]) ?_ ?_
        · simp only [Pe.Pw.ws, List.set_cons_zero, List.set_cons_succ, List.length_cons, List.length_nil, List.map_cons, List.map_nil, List.cons_append, List.nil_append, List.replicate_succ, List.replicate_zero, Nat.reduceSub, Nat.reduceAdd, Nat.reduceLT, true_and, and_true, if_true, Bool.false_eq_true, if_false, true_implies, false_implies, forall_const, decide_eq_true_eq, decide_eq_false_iff_not, Bool.not_eq_true', Bool.not_eq_false', reduceCtorEq]
          refine ⟨fun _ => ?_, fun _ => True.intro⟩
          rw [ek, cut_hi, cut_lo]
          refine ⟨by rw [List.length_take, List.length_drop]; omega, ?_⟩
          refine fin _ h1 (by rw [List.length_append, List.length_take, List.length_drop]; omega) (fun y hy => ?_) b1
          rcases List.mem_append.mp hy with h | h
          · exact up y (List.mem_of_mem_take h)
          · exact up y (List.mem_of_mem_drop h)
        rintro _ h1 ⟨rfl, rfl⟩
        refine w_cut (fun e hh => hh = h1 ∧ e = [some (.ref n), some (.d (.tup ds)), some (.d (.int (j : Nat))), some (.d (.int w)), none]) ?_ ?_
        · simp only [Pe.Pw.ws, List.set_cons_zero, List.set_cons_succ, List.length_cons, List.length_nil, List.map_cons, List.map_nil, List.cons_append, List.nil_append, List.replicate_succ, List.replicate_zero, Nat.reduceSub, Nat.reduceAdd, Nat.reduceLT, true_and, and_true, if_true, Bool.false_eq_true, if_false, true_implies, false_implies, forall_const, decide_eq_true_eq, decide_eq_false_iff_not, Bool.not_eq_true', Bool.not_eq_false', reduceCtorEq, w_ixT ej, mkTup_1]
          refine ⟨fun _ => ?_, fun _ => True.intro⟩
          rw [cut_hi, cut_lo]
          refine ⟨sz, by simp only [List.length_take, List.length_cons, List.length_nil]; omega, by simp only [List.length_append, List.length_take, List.length_drop, List.length_cons, List.length_nil]; omega, ?_⟩
          refine fin _ h1 (by simp only [List.length_append, List.length_take, List.length_drop, List.length_cons, List.length_nil]; omega) (fun y hy => ?_) b1
          rcases List.mem_append.mp hy with h | h
          · rcases List.mem_append.mp h with h | h
            · exact up y (List.mem_of_mem_take h)
            · rw [List.mem_singleton.mp h]; exact up _ (List.getElem_mem hj)
          · exact up y (List.mem_of_mem_drop h)
        rintro _ h1 ⟨rfl, rfl⟩
        have mput : ∀ {xs : List D} {i : Nat} {z : D}, (∀ y ∈ xs, Be (N + 1) (k + 2) y) → Be (N + 1) (k + 2) z → ∀ y ∈ xs.take i ++ [z] ++ xs.drop (i + 1), Be (N + 1) (k + 2) y := fun {xs i z} hx hz y hy => by
          rcases List.mem_append.mp hy with h | h
          · rcases List.mem_append.mp h with h | h
            · exact hx y (List.mem_of_mem_take h)
            · rw [List.mem_singleton.mp h]; exact hz
          · exact hx y (List.mem_of_mem_drop h)
        have lput : ∀ {xs : List D} {i : Nat} {z : D}, i < xs.length → (xs.take i ++ [z] ++ xs.drop (i + 1)).length = xs.length := fun {xs i z} hi => by
          simp only [List.length_append, List.length_take, List.length_drop, List.length_cons, List.length_nil]
          omega
        refine w_cut (fun e hh => hh = h1 ∧ e = [some (.ref n), some (.d (.tup ds)), some (.d (.int (j : Nat))), some (.d (.int w)), none]) ?_ ?_
        · have f0 := Int.fmod_nonneg_of_pos ((j : Int) + 1) (show (0 : Int) < ds.length by omega)
          have f1 := Int.fmod_lt_of_pos ((j : Int) + 1) (show (0 : Int) < ds.length by omega)
          obtain ⟨i, hi⟩ := Int.eq_ofNat_of_zero_le f0
          rw [hi] at f1
          have hi2 : i < ds.length := by omega
          have ei := at_get hi2
          simp only [Pe.Pw.ws, List.set_cons_zero, List.set_cons_succ, List.length_cons, List.length_nil, List.map_cons, List.map_nil, List.cons_append, List.nil_append, List.replicate_succ, List.replicate_zero, Nat.reduceSub, Nat.reduceAdd, Nat.reduceLT, true_and, and_true, if_true, Bool.false_eq_true, if_false, true_implies, false_implies, forall_const, decide_eq_true_eq, decide_eq_false_iff_not, Bool.not_eq_true', Bool.not_eq_false', reduceCtorEq]
          refine ⟨fun _ => ⟨by omega, ?_⟩, fun _ => True.intro⟩
          rw [hi]
          have l1 := lput (xs := ds) (i := j) (z := ds[i]) hj
          have l2 := lput (xs := ds.take j ++ [ds[i]] ++ ds.drop (j + 1)) (i := i) (z := ds[j]) (by omega)
          simp only [Pe.Pw.ws, List.set_cons_zero, List.set_cons_succ, List.length_cons, List.length_nil, List.map_cons, List.map_nil, List.cons_append, List.nil_append, List.replicate_succ, List.replicate_zero, Nat.reduceSub, Nat.reduceAdd, Nat.reduceLT, true_and, and_true, if_true, Bool.false_eq_true, if_false, true_implies, false_implies, forall_const, decide_eq_true_eq, decide_eq_false_iff_not, Bool.not_eq_true', Bool.not_eq_false', reduceCtorEq, w_ixT ei, w_ixT ej, w_iff (put_e (d := d + (k + 1) + 2) ipu (xs := ds) (k := j) (x := ds[i]) (by omega)), w_iff (put_e (d := d + (k + 1) + 2) ipu (xs := ds.take j ++ [ds[i]] ++ ds.drop (j + 1)) (k := i) (x := ds[j]) (by omega))]
          have m1 := mput (i := j) up (up _ (List.getElem_mem hi2))
          have m2 := mput (i := i) m1 (up _ (List.getElem_mem hj))
          generalize ds.take j ++ [ds[i]] ++ ds.drop (j + 1) = es at *
          generalize es.take i ++ [ds[j]] ++ es.drop (i + 1) = gs at *
          exact fin gs h1 (by omega) m2 b1
        rintro _ h1 ⟨rfl, rfl⟩
        simp only [Pe.Pw.ws, List.set_cons_zero, List.set_cons_succ, List.length_cons, List.length_nil, List.map_cons, List.map_nil, List.cons_append, List.nil_append, List.replicate_succ, List.replicate_zero, Nat.reduceSub, Nat.reduceAdd, Nat.reduceLT, true_and, and_true, if_true, Bool.false_eq_true, if_false, true_implies, false_implies, forall_const, decide_eq_true_eq, decide_eq_false_iff_not, Bool.not_eq_true', Bool.not_eq_false', reduceCtorEq, w_ixT ej]
        rw [show d + (k + 1) + 3 = d + k + 4 by omega]
        refine ih ds[j] h1 _ (hd _ (List.getElem_mem hj)) (b1.dr a) fun y h2 hy b2 => ?_
        have l1 := lput (xs := ds) (i := j) (z := y) hj
        simp only [Pe.Pw.ws, List.set_cons_zero, List.set_cons_succ, List.length_cons, List.length_nil, List.map_cons, List.map_nil, List.cons_append, List.nil_append, List.replicate_succ, List.replicate_zero, Nat.reduceSub, Nat.reduceAdd, Nat.reduceLT, true_and, and_true, if_true, Bool.false_eq_true, if_false, true_implies, false_implies, forall_const, decide_eq_true_eq, decide_eq_false_iff_not, Bool.not_eq_true', Bool.not_eq_false', reduceCtorEq, w_iff (put_e (d := d + k + 3) ipu (xs := ds) (k := j) (x := y) (by omega))]
        exact fin _ h2 (by omega) (mput up hy) (b1.trans b2)
end
end Pe.Pw
/-! Pe: sides, ways and rings among arbitrary things. -/
namespace Pe.Pw
open PySem
/-- the arc of a side -/
def fnd (rs : List Rd) (p : D) : Option Ar := (allA 0 rs).find? fun r => PyData.eqv r.s.py p.py
def arcsV (rs : List Rd) : List D → Option (List Ar)
  | [] => some []
  | p :: ps => match fnd rs p, arcsV rs ps with
    | some r, some l => some (r :: l)
    | _, _ => none
def wayV (rs : List Rd) (y : Nat) : Nat → List D → Bool
  | now, [] => decide (now = y)
  | now, p :: ps => match fnd rs p with
    | some r => decide (r.a = now) && wayV rs y r.b ps
    | none => false
def chainB (y : Nat) : Nat → List Ar → Bool
  | x, [] => decide (x = y)
  | x, r :: l => decide (r.a = x) && chainB y r.b l
def consB : Nat → List Ar → Bool
  | _, [] => true
  | x, r :: l => decide (r.a = x) && consB r.b l
def endO : Nat → List Ar → Nat
  | x, [] => x
  | _, r :: l => endO r.b l
theorem chain_cons {y : Nat} : ∀ {x : Nat} {l : List Ar}, chainB y x l = (consB x l && decide (endO x l = y))
  | x, [] => rfl
  | x, r :: l => by
    show (decide (r.a = x) && chainB y r.b l) = (decide (r.a = x) && consB r.b l && decide (endO r.b l = y))
    rw [chain_cons, Bool.and_assoc]
theorem way_chain {rs : List Rd} {y : Nat} : ∀ {x : Nat} {ps : List D}, wayV rs y x ps = match arcsV rs ps with
    | some l => chainB y x l
    | none => false
  | x, [] => rfl
  | x, p :: ps => by
    unfold wayV arcsV
    cases fnd rs p with
    | none => rfl
    | some r =>
      dsimp only
      rw [way_chain (x := r.b)]
      cases arcsV rs ps with
      | none => simp
      | some l => rfl
theorem s_nb {k : Nat} : ∀ {rs : List Rd} {r : Ar}, r ∈ allA k rs → nbD r.s = true ∧ Sm 1 r.s := fun {rs r} h => by
  obtain ⟨i, rd, _, c⟩ := mem_allA rs k h
  have two : ∀ a b : Int, nbD (.tup [.int a, .int b]) = true ∧ Sm 1 (.tup [.int a, .int b]) := fun a b => ⟨rfl, (sz : 2 ≤ sizeLine), fun x hx => by
    simp only [List.mem_cons, List.not_mem_nil, or_false] at hx
    rcases hx with rfl | rfl <;> exact True.intro⟩
  rcases c with ⟨e, _⟩ | ⟨e, _⟩ <;> rw [e] <;> exact two _ _
theorem fnd_some {rs : List Rd} {p : D} {r : Ar} (nb : nbD p = true) (h : fnd rs p = some r) : r ∈ allA 0 rs ∧ r.s = p := by
  have m := List.mem_of_find?_eq_some h
  have e := List.find?_some h
  exact ⟨m, (eqv_nb _ _ (s_nb m).1 nb).mp e⟩
theorem fnd_none {rs : List Rd} {p : D} (nb : nbD p = true) (h : fnd rs p = none) : ∀ r ∈ allA 0 rs, r.s ≠ p := fun r hr e => by
  have := List.find?_eq_none.mp h r hr
  exact this ((eqv_nb _ _ (s_nb hr).1 nb).mpr e)
theorem allA_hi : ∀ {rs : List Rd} {k i : Nat} {rd : Rd} {w : Int}, rs[i]? = some rd → rd.hi = some w → (⟨rd.a, rd.b, w, .tup [.int ((k + i : Nat) : Int), .int 1]⟩ : Ar) ∈ allA k rs
  | [], _, _, _, _, h, _ => by simp at h
  | r :: rs, k, 0, rd, w, h, e => by
    cases h
    unfold allA arcsA
    rw [e]
    exact List.mem_append_left _ (List.mem_append_right _ (List.mem_singleton.mpr rfl))
  | r :: rs, k, i + 1, rd, w, h, e => by
    have := allA_hi (rs := rs) (k := k + 1) (i := i) (by simpa using h) e
    rw [show k + 1 + i = k + (i + 1) by omega] at this
    unfold allA
    exact List.mem_append_right _ this
theorem allA_lo : ∀ {rs : List Rd} {k i : Nat} {rd : Rd} {w : Int}, rs[i]? = some rd → rd.lo = some w → (⟨rd.b, rd.a, -w, .tup [.int ((k + i : Nat) : Int), .int (-1)]⟩ : Ar) ∈ allA k rs
  | [], _, _, _, _, h, _ => by simp at h
  | r :: rs, k, 0, rd, w, h, e => by
    cases h
    unfold allA arcsA
    rw [e]
    exact List.mem_append_left _ (List.mem_append_left _ (List.mem_singleton.mpr rfl))
  | r :: rs, k, i + 1, rd, w, h, e => by
    have := allA_lo (rs := rs) (k := k + 1) (i := i) (by simpa using h) e
    rw [show k + 1 + i = k + (i + 1) by omega] at this
    unfold allA
    exact List.mem_append_right _ this
/-- a side names one arc -/
theorem s_inj {rs : List Rd} {r q : Ar} (hr : r ∈ allA 0 rs) (hq : q ∈ allA 0 rs) (e : r.s = q.s) : r = q := by
  obtain ⟨i, rd, ei, c⟩ := mem_allA rs 0 hr
  obtain ⟨j, re, ej, c2⟩ := mem_allA rs 0 hq
  rw [Nat.zero_add] at c c2
  obtain ⟨ra, rb, rw_, rs_⟩ := r
  obtain ⟨qa, qb, qw, qs⟩ := q
  dsimp only at c c2 e
  have ij : ∀ {a b : Int}, D.tup [.int (i : Nat), .int a] = D.tup [.int (j : Nat), .int b] → i = j ∧ a = b := fun h => by
    simp only [D.tup.injEq, List.cons.injEq, D.int.injEq, and_true] at h
    exact ⟨by omega, h.2⟩
  rcases c with ⟨e1, e2, e3, e4⟩ | ⟨e1, e2, e3, e4⟩ <;> rcases c2 with ⟨f1, f2, f3, f4⟩ | ⟨f1, f2, f3, f4⟩
  · rw [e1, f1] at e
    obtain ⟨rfl, _⟩ := ij e
    rw [ei] at ej
    cases ej
    rw [e2] at f2
    cases f2
    rw [e1, f1, e3, e4, f3, f4]
  · rw [e1, f1] at e
    exact absurd (ij e).2 (by decide)
  · rw [e1, f1] at e
    exact absurd (ij e).2 (by decide)
  · rw [e1, f1] at e
    obtain ⟨rfl, _⟩ := ij e
    rw [ei] at ej
    cases ej
    rw [e2] at f2
    have : rw_ = qw := by have := Option.some.inj f2; omega
    rw [e1, f1, e3, e4, f3, f4, this]
theorem fnd_of {rs : List Rd} {r : Ar} (hr : r ∈ allA 0 rs) : fnd rs r.s = some r := by
  cases h : fnd rs r.s with
  | none => exact absurd rfl (fnd_none (s_nb hr).1 h r hr)
  | some q =>
    obtain ⟨m, e⟩ := fnd_some (s_nb hr).1 h
    rw [s_inj m hr e]
/-- the law's list of what is found -/
theorem fnd_filter {rs : List Rd} {p : D} (nb : nbD p = true) : (allA 0 rs).filter (fun r => PyData.eqv r.s.py p.py) = (match fnd rs p with
    | some r => r :: ((allA 0 rs).filter (fun r => PyData.eqv r.s.py p.py)).tail
    | none => []) := by
  unfold fnd
  generalize allA 0 rs = l
  induction l with
  | nil => rfl
  | cons a l ih =>
    cases q : PyData.eqv a.s.py p.py with
    | true => simp [List.filter_cons, List.find?_cons, q]
    | false =>
      simp only [List.filter_cons, List.find?_cons, q]
      exact ih
section
variable {FT : List Fn} {h : Hs} {Q : PV → Hs → Prop} {n d f m N K : Nat} {rs : List Rd} {r : Ar} {p : D}
theorem isSideG_e {ir im : Nat} (is : Is FT f 2 4 (isSideB ir im)) (iir : Is FT ir 2 2 isRowB) (iim : Is FT im 1 1 isNumB) (nb : nbD p = true) (hl : rs.length ≤ 1000) : cal FT (d + 2) f [.d (rsD rs), .d p] h = some (.d (.bl (fnd rs p).isSome), h) := by
  refine eq_of_wp (is.call rfl ?_)
  unfold isSideB
  have e1 : ∀ x : D, cal FT (d + 1) ir [.d x, .d (.int 2)] h = some (.d (.bl (rowK 2 x)), h) := fun x => isRow_g (d := d) (k := 2) iir
  have e2 : ∀ x : D, cal FT (d + 1) im [.d x] h = some (.d (.bl (isIntD x)), h) := fun x => isNum_g (d := d) iim
  have no : (∀ i g : Int, p ≠ .tup [.int i, .int g]) → fnd rs p = none := fun hp => by
    cases q : fnd rs p with
    | none => rfl
    | some r =>
      obtain ⟨mr, e⟩ := fnd_some nb q
      obtain ⟨i, rd, _, c⟩ := mem_allA rs 0 mr
      rcases c with ⟨e3, _⟩ | ⟨e3, _⟩
      · exact absurd (e.symm.trans e3) (hp _ _)
      · exact absurd (e.symm.trans e3) (hp _ _)
  by_cases r2 : rowK 2 p = true
  · obtain ⟨u, v, rfl⟩ : ∃ u v, p = .tup [u, v] := by
      cases p with
      | tup xs =>
        have : xs.length = 2 := of_decide_eq_true r2
        match xs, this with
        | [u, v], _ => exact ⟨u, v, rfl⟩
      | _ => cases r2
    by_cases iu : isIntD u = true
    · by_cases iv : isIntD v = true
      · obtain ⟨i, rfl⟩ : ∃ i, u = .int i := by
          cases u with
          | int i => exact ⟨i, rfl⟩
          | _ => cases iu
        obtain ⟨g, rfl⟩ : ∃ g, v = .int g := by
          cases v with
          | int g => exact ⟨g, rfl⟩
          | _ => cases iv
        refine w_cut (fun e hh => hh = h ∧ e = [some (.d (rsD rs)), some (.d (.tup [.int i, .int g])), none, none]) ?_ ?_
        · simp only [Pe.Pw.ws, List.set_cons_zero, List.set_cons_succ, List.length_cons, List.length_nil, List.map_cons, List.map_nil, List.cons_append, List.nil_append, List.replicate_succ, List.replicate_zero, Nat.reduceSub, Nat.reduceAdd, Nat.reduceLT, true_and, and_true, if_true, Bool.false_eq_true, if_false, true_implies, false_implies, forall_const, decide_eq_true_eq, decide_eq_false_iff_not, Bool.not_eq_true', Bool.not_eq_false', reduceCtorEq, w_iff (e1 _), r2, w_ixT (at2_0), w_ixT (at2_1), w_iff (e2 _), iu, iv, Bool.not_true]
        rintro _ h ⟨rfl, rfl⟩
        refine w_cut (fun e hh => hh = h ∧ e = [some (.d (rsD rs)), some (.d (.tup [.int i, .int g])), some (.d (.int i)), some (.d (.int g))]) ?_ ?_
        · simp only [Pe.Pw.ws, List.set_cons_zero, List.set_cons_succ, List.length_cons, List.length_nil, List.map_cons, List.map_nil, List.cons_append, List.nil_append, List.replicate_succ, List.replicate_zero, Nat.reduceSub, Nat.reduceAdd, Nat.reduceLT, true_and, and_true, if_true, Bool.false_eq_true, if_false, true_implies, false_implies, forall_const, decide_eq_true_eq, decide_eq_false_iff_not, Bool.not_eq_true', Bool.not_eq_false', reduceCtorEq]
        rintro _ h ⟨rfl, rfl⟩
        unfold rsD
        have key : ∀ r, fnd rs (.tup [.int i, .int g]) = some r → ∃ (j : Nat) (rd : Rd), i = (j : Nat) ∧ rs[j]? = some rd ∧ (g = 1 ∧ rd.hi = some r.w ∨ g = -1 ∧ rd.lo = some (-r.w)) := fun r q => by
          obtain ⟨mr, e⟩ := fnd_some nb q
          obtain ⟨j, rd, ej, c⟩ := mem_allA rs 0 mr
          rw [Nat.zero_add] at c
          rcases c with ⟨e3, e4, _⟩ | ⟨e3, e4, _⟩
          · have := e.symm.trans e3
            simp only [D.tup.injEq, List.cons.injEq, D.int.injEq, and_true] at this
            exact ⟨j, rd, this.1, ej, .inl ⟨this.2, e4⟩⟩
          · have := e.symm.trans e3
            simp only [D.tup.injEq, List.cons.injEq, D.int.injEq, and_true] at this
            exact ⟨j, rd, this.1, ej, .inr ⟨this.2, e4⟩⟩
        have nn : (∀ r, fnd rs (.tup [.int i, .int g]) ≠ some r) → (fnd rs (.tup [.int i, .int g])).isSome = false := fun c => by
          cases q : fnd rs (.tup [.int i, .int g]) with
          | none => rfl
          | some r => exact absurd q (c r)
        have a2 : ∀ a b c d : D, L2.atI [a, b, c, d] 2 = some c := fun _ _ _ _ => rfl
        have a3 : ∀ a b c d : D, L2.atI [a, b, c, d] 3 = some d := fun _ _ _ _ => rfl
        simp only [Pe.Pw.ws, List.set_cons_zero, List.set_cons_succ, List.length_cons, List.length_nil, List.map_cons, List.map_nil, List.cons_append, List.nil_append, List.replicate_succ, List.replicate_zero, Nat.reduceSub, Nat.reduceAdd, Nat.reduceLT, true_and, and_true, if_true, Bool.false_eq_true, if_false, true_implies, false_implies, forall_const, decide_eq_true_eq, decide_eq_false_iff_not, Bool.not_eq_true', Bool.not_eq_false', reduceCtorEq, List.length_map, Bool.not_eq_true', take_self, and_true]
        refine ⟨fun i0 => ⟨fun il => ?_, fun il => ?_⟩, fun i0 => ?_⟩
        · rw [nn fun r q => by
            obtain ⟨j, rd, e, ej, _⟩ := key r q
            have := (List.getElem?_eq_some_iff.mp ej).1
            omega]
        · obtain ⟨j, rfl⟩ := Int.eq_ofNat_of_zero_le i0
          have hj : j < rs.length := by omega
          have ej : rs[j]? = some rs[j] := List.getElem?_eq_getElem hj
          have ea : L2.atI (rs.map Rd.D) (j : Int) = some (.tup [.int (rs[j].a : Nat), .int (rs[j].b : Nat), oi rs[j].lo, oi rs[j].hi]) := at_rd ej
          refine ⟨fun g1 => ?_, fun g1 => ⟨fun g2 => ?_, fun g2 => ?_⟩⟩
          · subst g1
            simp only [Pe.Pw.ws, List.set_cons_zero, List.set_cons_succ, List.length_cons, List.length_nil, List.map_cons, List.map_nil, List.cons_append, List.nil_append, List.replicate_succ, List.replicate_zero, Nat.reduceSub, Nat.reduceAdd, Nat.reduceLT, true_and, and_true, if_true, Bool.false_eq_true, if_false, true_implies, false_implies, forall_const, decide_eq_true_eq, decide_eq_false_iff_not, Bool.not_eq_true', Bool.not_eq_false', reduceCtorEq, w_ixT ea, w_ixT (a3 _ _ _ _)]
            cases q : rs[j].hi with
            | none =>
              rw [nn fun r q2 => by
                obtain ⟨k, rd, e, ek, c⟩ := key r q2
                obtain rfl : j = k := by omega
                rw [ej] at ek
                cases ek
                rcases c with ⟨_, c⟩ | ⟨c, _⟩
                · rw [q] at c; cases c
                · exact absurd c (by decide)]
              exact ⟨rfl, take_self _⟩
            | some w =>
              have := fnd_of (allA_hi (k := 0) ej q)
              rw [Nat.zero_add] at this
              rw [this]
              exact ⟨rfl, take_self _⟩
          · subst g2
            simp only [Pe.Pw.ws, List.set_cons_zero, List.set_cons_succ, List.length_cons, List.length_nil, List.map_cons, List.map_nil, List.cons_append, List.nil_append, List.replicate_succ, List.replicate_zero, Nat.reduceSub, Nat.reduceAdd, Nat.reduceLT, true_and, and_true, if_true, Bool.false_eq_true, if_false, true_implies, false_implies, forall_const, decide_eq_true_eq, decide_eq_false_iff_not, Bool.not_eq_true', Bool.not_eq_false', reduceCtorEq, w_ixT ea, w_ixT (a2 _ _ _ _)]
            cases q : rs[j].lo with
            | none =>
              rw [nn fun r q2 => by
                obtain ⟨k, rd, e, ek, c⟩ := key r q2
                obtain rfl : j = k := by omega
                rw [ej] at ek
                cases ek
                rcases c with ⟨c, _⟩ | ⟨_, c⟩
                · exact absurd c (by decide)
                · rw [q] at c; cases c]
              exact ⟨rfl, take_self _⟩
            | some w =>
              have := fnd_of (allA_lo (k := 0) ej q)
              rw [Nat.zero_add] at this
              rw [this]
              exact ⟨rfl, take_self _⟩
          · rw [nn fun r q2 => by
              obtain ⟨k, rd, e, ek, c⟩ := key r q2
              rcases c with ⟨c, _⟩ | ⟨c, _⟩
              · exact g1 c
              · exact g2 c]
        · rw [nn fun r q => by
            obtain ⟨j, rd, e, ej, _⟩ := key r q
            omega]
      · rw [no fun i g e => by cases e; exact iv rfl]
        have iv : isIntD v = false := by simpa using iv
        simp only [Pe.Pw.ws, List.set_cons_zero, List.set_cons_succ, List.length_cons, List.length_nil, List.map_cons, List.map_nil, List.cons_append, List.nil_append, List.replicate_succ, List.replicate_zero, Nat.reduceSub, Nat.reduceAdd, Nat.reduceLT, true_and, and_true, if_true, Bool.false_eq_true, if_false, true_implies, false_implies, forall_const, decide_eq_true_eq, decide_eq_false_iff_not, Bool.not_eq_true', Bool.not_eq_false', reduceCtorEq, w_iff (e1 _), r2, w_ixT (at2_0), w_ixT (at2_1), w_iff (e2 _), iu, iv, Bool.not_true, Bool.not_false, take_self]
        exact rfl
    · rw [no fun i g e => by cases e; exact iu rfl]
      have iu : isIntD u = false := by simpa using iu
      simp only [Pe.Pw.ws, List.set_cons_zero, List.set_cons_succ, List.length_cons, List.length_nil, List.map_cons, List.map_nil, List.cons_append, List.nil_append, List.replicate_succ, List.replicate_zero, Nat.reduceSub, Nat.reduceAdd, Nat.reduceLT, true_and, and_true, if_true, Bool.false_eq_true, if_false, true_implies, false_implies, forall_const, decide_eq_true_eq, decide_eq_false_iff_not, Bool.not_eq_true', Bool.not_eq_false', reduceCtorEq, w_iff (e1 _), r2, w_ixT (at2_0), w_ixT (at2_1), w_iff (e2 _), iu, Bool.not_true, Bool.not_false, take_self]
      exact rfl
  · rw [no fun i g e => by rw [e] at r2; exact r2 rfl]
    have r2 : rowK 2 p = false := by simpa using r2
    simp only [Pe.Pw.ws, List.set_cons_zero, List.set_cons_succ, List.length_cons, List.length_nil, List.map_cons, List.map_nil, List.cons_append, List.nil_append, List.replicate_succ, List.replicate_zero, Nat.reduceSub, Nat.reduceAdd, Nat.reduceLT, true_and, and_true, if_true, Bool.false_eq_true, if_false, true_implies, false_implies, forall_const, decide_eq_true_eq, decide_eq_false_iff_not, Bool.not_eq_true', Bool.not_eq_false', reduceCtorEq, w_iff (e1 _), r2, Bool.not_true, Bool.not_false, take_self]
    exact rfl
end
end Pe.Pw
/-! Pe: is_way, is_ring, is_clash at arbitrary things. -/
namespace Pe.Pw
open PySem
def wayD (rs : List Rd) (x y : Nat) : D → Bool
  | .tup ps => wayV rs y x ps
  | _ => false
/-- the arcs of a ring -/
def rgV (rs : List Rd) (ps : List D) : Option (List Ar) := match arcsV rs ps with
  | some (r :: l) => if consB r.b l && decide (endO r.b l = r.a) && decide ((met ((r :: l).map fun q => (q.a : Int))).length = l.length + 1) then some (r :: l) else none
  | _ => none
def rgD (rs : List Rd) : D → Option (List Ar)
  | .tup ps => if ps.length < 2 then none else rgV rs ps
  | _ => none
def clD (rs : List Rd) (p : D) : Bool := match rgD rs p with
  | some l => decide ((l.map Ar.w).sum < 0)
  | none => false
theorem arcsV_none {rs : List Rd} : ∀ {ps : List D}, (ps.map fun p => (fnd rs p).isSome).all id = false → arcsV rs ps = none
  | [], h => by cases h
  | p :: ps, h => by
    unfold arcsV
    cases q : fnd rs p with
    | none => rfl
    | some r =>
      have : (ps.map fun p => (fnd rs p).isSome).all id = false := by simpa [q] using h
      rw [arcsV_none this]
theorem arcsV_ex {rs : List Rd} : ∀ {ps : List D}, (ps.map fun p => (fnd rs p).isSome).all id = true → ∃ l, arcsV rs ps = some l
  | [], h => ⟨[], rfl⟩
  | p :: ps, h => by
    unfold arcsV
    cases q : fnd rs p with
    | none => simp [q] at h
    | some r =>
      have : (ps.map fun p => (fnd rs p).isSome).all id = true := by simpa [q] using h
      obtain ⟨l, e⟩ := arcsV_ex this
      rw [e]
      exact ⟨_, rfl⟩
theorem arcsV_some {rs : List Rd} : ∀ {ps : List D} {l : List Ar}, (∀ p ∈ ps, nbD p = true) → arcsV rs ps = some l → (∀ r ∈ l, r ∈ allA 0 rs) ∧ ps = l.map Ar.s
  | [], l, _, h => by
    cases h
    exact ⟨fun r z => absurd z List.not_mem_nil, rfl⟩
  | p :: ps, l, nb, h => by
    unfold arcsV at h
    cases q : fnd rs p with
    | none => rw [q] at h; cases h
    | some r =>
      rw [q] at h
      cases q2 : arcsV rs ps with
      | none => rw [q2] at h; cases h
      | some l2 =>
        rw [q2] at h
        cases h
        obtain ⟨m, e⟩ := arcsV_some (fun p hp => nb p (List.mem_cons_of_mem _ hp)) q2
        obtain ⟨mr, er⟩ := fnd_some (nb p List.mem_cons_self) q
        exact ⟨fun x hx => by
          rcases List.mem_cons.mp hx with rfl | hx
          · exact mr
          · exact m x hx, by rw [List.map_cons, er, ← e]⟩
theorem chainB_step {y x : Nat} {l : List Ar} {i : Nat} {r : Ar} (e : l[i]? = some r) {now : Nat} : chainB y now (l.drop i) = (decide (r.a = now) && chainB y r.b (l.drop (i + 1))) := by
  have hi := (List.getElem?_eq_some_iff.mp e).1
  rw [List.getElem?_eq_getElem hi] at e
  have e := Option.some.inj e
  rw [List.drop_eq_getElem_cons hi, e]
  rfl
section
variable {FT : List Fn} {h : Hs} {Q : PV → Hs → Prop} {n d f m : Nat} {rs : List Rd} {p : D} {mk : D}
theorem isWayG_e {sd se ir im x y : Nat} (is : Is FT f 5 11 (isWayB sd se)) (isd : Is FT sd 2 4 (isSideB ir im)) (ise : Is FT se 2 8 sideEndsB) (iir : Is FT ir 2 2 isRowB) (iim : Is FT im 1 1 isNumB) (nb : nbD p = true) (hl : rs.length ≤ 1000) (hp : ∀ ps, p = .tup ps → ps.length ≤ 10000) :
    cal FT (d + 3) f [.d mk, .d (rsD rs), .d (.int (x : Nat)), .d (.int (y : Nat)), .d p] h = some (.d (.bl (wayD rs x y p)), h) := by
  refine eq_of_wp (is.call rfl ?_)
  unfold isWayB
  have hz : sizeLine = 2 ^ 24 := rfl
  by_cases tp : ∃ ps, p = .tup ps
  · obtain ⟨ps, rfl⟩ := tp
    have pl := hp ps rfl
    have nbs := nbs_iff.mp (show nbsD ps = true by rw [nbD] at nb; exact nb)
    have side := fun (x : D) (hx : x ∈ ps) => isSideG_e (h := h) (d := d) (rs := rs) (p := x) isd iir iim (nbs x hx) hl
    let E : Option PV → Option PV → Option PV → Option PV → Option PV → Env := fun e5 e6 e7 e8 e9 => [some (.d mk), some (.d (rsD rs)), some (.d (.int (x : Nat))), some (.d (.int (y : Nat))), some (.d (.tup ps)), e5, e6, e7, e8, e9, none]
    show Wp _ _ _
    have w : wayD rs x y (.tup ps) = match arcsV rs ps with
      | some l => chainB y x l
      | none => false := way_chain
    rw [w]
    cases ba : (ps.map fun p => (fnd rs p).isSome).all id with
    | false =>
      rw [arcsV_none ba]
      refine w_cut (fun _ _ => False) ?_ (fun _ _ z => z.elim)
      simp only [Pe.Pw.ws, List.set_cons_zero, List.set_cons_succ, List.length_cons, List.length_nil, List.map_cons, List.map_nil, List.cons_append, List.nil_append, List.replicate_succ, List.replicate_zero, Nat.reduceSub, Nat.reduceAdd, Nat.reduceLT, true_and, and_true, if_true, Bool.false_eq_true, if_false, true_implies, false_implies, forall_const, decide_eq_true_eq, decide_eq_false_iff_not, Bool.not_eq_true', Bool.not_eq_false', reduceCtorEq, tyIs, List.any_cons, List.any_nil, Bool.or_false, Bool.not_true]
      refine w_clb ps (fun p => .d p) (fun p => (fnd rs p).isSome) its_imm (by omega) (fun r hx => ?_) ?_
      · simp only [Pe.Pw.ws, List.set_cons_zero, List.set_cons_succ, List.length_cons, List.length_nil, List.map_cons, List.map_nil, List.cons_append, List.nil_append, List.replicate_succ, List.replicate_zero, Nat.reduceSub, Nat.reduceAdd, Nat.reduceLT, true_and, and_true, if_true, Bool.false_eq_true, if_false, true_implies, false_implies, forall_const, decide_eq_true_eq, decide_eq_false_iff_not, Bool.not_eq_true', Bool.not_eq_false', reduceCtorEq, w_iff (side r hx)]
      · simp only [Pe.Pw.ws, List.set_cons_zero, List.set_cons_succ, List.length_cons, List.length_nil, List.map_cons, List.map_nil, List.cons_append, List.nil_append, List.replicate_succ, List.replicate_zero, Nat.reduceSub, Nat.reduceAdd, Nat.reduceLT, true_and, and_true, if_true, Bool.false_eq_true, if_false, true_implies, false_implies, forall_const, decide_eq_true_eq, decide_eq_false_iff_not, Bool.not_eq_true', Bool.not_eq_false', reduceCtorEq, ba, Bool.not_false, take_self]
    | true =>
      obtain ⟨l, el⟩ := arcsV_ex ba
      obtain ⟨lm, rfl⟩ := arcsV_some nbs el
      rw [el]
      dsimp only
      refine w_cut (fun e hh => hh = h ∧ e = E none none none none none) ?_ ?_
      · simp only [Pe.Pw.ws, List.set_cons_zero, List.set_cons_succ, List.length_cons, List.length_nil, List.map_cons, List.map_nil, List.cons_append, List.nil_append, List.replicate_succ, List.replicate_zero, Nat.reduceSub, Nat.reduceAdd, Nat.reduceLT, true_and, and_true, if_true, Bool.false_eq_true, if_false, true_implies, false_implies, forall_const, decide_eq_true_eq, decide_eq_false_iff_not, Bool.not_eq_true', Bool.not_eq_false', reduceCtorEq, tyIs, List.any_cons, List.any_nil, Bool.or_false, Bool.not_true]
        refine w_clb (l.map Ar.s) (fun p => .d p) (fun p => (fnd rs p).isSome) its_imm (by omega) (fun r hx => ?_) ?_
        · simp only [Pe.Pw.ws, List.set_cons_zero, List.set_cons_succ, List.length_cons, List.length_nil, List.map_cons, List.map_nil, List.cons_append, List.nil_append, List.replicate_succ, List.replicate_zero, Nat.reduceSub, Nat.reduceAdd, Nat.reduceLT, true_and, and_true, if_true, Bool.false_eq_true, if_false, true_implies, false_implies, forall_const, decide_eq_true_eq, decide_eq_false_iff_not, Bool.not_eq_true', Bool.not_eq_false', reduceCtorEq, w_iff (side r hx)]
        · simp only [Pe.Pw.ws, List.set_cons_zero, List.set_cons_succ, List.length_cons, List.length_nil, List.map_cons, List.map_nil, List.cons_append, List.nil_append, List.replicate_succ, List.replicate_zero, Nat.reduceSub, Nat.reduceAdd, Nat.reduceLT, true_and, and_true, if_true, Bool.false_eq_true, if_false, true_implies, false_implies, forall_const, decide_eq_true_eq, decide_eq_false_iff_not, Bool.not_eq_true', Bool.not_eq_false', reduceCtorEq, ba, Bool.not_true]
          exact rfl
      rintro _ h ⟨rfl, rfl⟩
      refine w_cut (fun e hh => hh = h ∧ e = E (some (.d (.int (x : Nat)))) none none none none) ?_ ?_
      · simp only [Pe.Pw.ws, List.set_cons_zero, List.set_cons_succ, List.length_cons, List.length_nil, List.map_cons, List.map_nil, List.cons_append, List.nil_append, List.replicate_succ, List.replicate_zero, Nat.reduceSub, Nat.reduceAdd, Nat.reduceLT, true_and, and_true, if_true, Bool.false_eq_true, if_false, true_implies, false_implies, forall_const, decide_eq_true_eq, decide_eq_false_iff_not, Bool.not_eq_true', Bool.not_eq_false', reduceCtorEq, E]
      rintro _ h ⟨rfl, rfl⟩
      refine w_cut (fun e hh => hh = h ∧ ∃ (now : Nat) (e6 e7 e8 e9 : Option PV), decide (now = y) = chainB y x l ∧ e = E (some (.d (.int (now : Nat)))) e6 e7 e8 e9) ?_ ?_
      · simp only [Pe.Pw.ws, List.set_cons_zero, List.set_cons_succ, List.length_cons, List.length_nil, List.map_cons, List.map_nil, List.cons_append, List.nil_append, List.replicate_succ, List.replicate_zero, Nat.reduceSub, Nat.reduceAdd, Nat.reduceLT, true_and, and_true, if_true, Bool.false_eq_true, if_false, true_implies, false_implies, forall_const, decide_eq_true_eq, decide_eq_false_iff_not, Bool.not_eq_true', Bool.not_eq_false', reduceCtorEq, E]
        refine w_forT l Ar.s (fun i e hh => hh = h ∧ ∃ (now : Nat) (e6 e7 e8 e9 : Option PV), chainB y now (l.drop i) = chainB y x l ∧ e = E (some (.d (.int (now : Nat)))) e6 e7 e8 e9) ⟨rfl, x, _, _, _, _, rfl, rfl⟩ (fun i e hh r er p => ?_) fun e hh p => ?_
        · obtain ⟨rfl, now, e6, e7, e8, e9, ch, rfl⟩ := p
          rw [chainB_step (x := x) er] at ch
          have hr := lm r (List.mem_of_getElem? er)
          simp only [Pe.Pw.ws, List.set_cons_zero, List.set_cons_succ, List.length_cons, List.length_nil, List.map_cons, List.map_nil, List.cons_append, List.nil_append, List.replicate_succ, List.replicate_zero, Nat.reduceSub, Nat.reduceAdd, Nat.reduceLT, true_and, and_true, if_true, Bool.false_eq_true, if_false, true_implies, false_implies, forall_const, decide_eq_true_eq, decide_eq_false_iff_not, Bool.not_eq_true', Bool.not_eq_false', reduceCtorEq, E, w_iff (sideEnds_e (h := hh) (d := d + 1) ise hr)]
          refine ⟨fun ne => ?_, fun ne => ?_⟩
          · have : ¬ r.a = now := fun e => ne (by rw [e])
            rw [decide_eq_false this] at ch
            rw [← ch]
            exact ⟨rfl, take_self _⟩
          · have : r.a = now := by omega
            rw [decide_eq_true this, Bool.true_and] at ch
            exact ⟨r.b, _, _, _, _, ch, rfl⟩
        · obtain ⟨rfl, now, e6, e7, e8, e9, ch, rfl⟩ := p
          rw [List.drop_length] at ch
          exact ⟨rfl, now, _, _, _, _, ch, rfl⟩
      rintro _ h ⟨rfl, now, e6, e7, e8, e9, ch, rfl⟩
      simp only [Pe.Pw.ws, List.set_cons_zero, List.set_cons_succ, List.length_cons, List.length_nil, List.map_cons, List.map_nil, List.cons_append, List.nil_append, List.replicate_succ, List.replicate_zero, Nat.reduceSub, Nat.reduceAdd, Nat.reduceLT, true_and, and_true, if_true, Bool.false_eq_true, if_false, true_implies, false_implies, forall_const, decide_eq_true_eq, decide_eq_false_iff_not, Bool.not_eq_true', Bool.not_eq_false', reduceCtorEq, E]
      rw [take_self, ← ch, show decide ((now : Int) = (y : Int)) = decide (now = y) from decide_eq_decide.mpr (by omega)]
      exact ⟨rfl, rfl⟩
  · have ty : tyIs h (.d p) .tuple = false := by
      cases p with
      | tup ps => exact absurd ⟨ps, rfl⟩ tp
      | _ => rfl
    have w : wayD rs x y p = false := by
      cases p with
      | tup ps => exact absurd ⟨ps, rfl⟩ tp
      | _ => rfl
    rw [w]
    refine w_cut (fun _ _ => False) ?_ (fun _ _ z => z.elim)
    simp only [Pe.Pw.ws, List.set_cons_zero, List.set_cons_succ, List.length_cons, List.length_nil, List.map_cons, List.map_nil, List.cons_append, List.nil_append, List.replicate_succ, List.replicate_zero, Nat.reduceSub, Nat.reduceAdd, Nat.reduceLT, true_and, and_true, if_true, Bool.false_eq_true, if_false, true_implies, false_implies, forall_const, decide_eq_true_eq, decide_eq_false_iff_not, Bool.not_eq_true', Bool.not_eq_false', reduceCtorEq, List.any_cons, List.any_nil, Bool.or_false, ty, Bool.not_false, take_self]
theorem isRingG_e {sd se iw ir im : Nat} (is : Is FT f 3 5 (isRingB sd se iw)) (iw_ : Is FT iw 5 11 (isWayB sd se)) (isd : Is FT sd 2 4 (isSideB ir im)) (ise : Is FT se 2 8 sideEndsB) (iir : Is FT ir 2 2 isRowB) (iim : Is FT im 1 1 isNumB) (nb : nbD p = true) (hl : rs.length ≤ 1000) (hp : ∀ ps, p = .tup ps → ps.length < 1000) :
    cal FT (d + 4) f [.d mk, .d (rsD rs), .d p] h = some (.d (.bl (rgD rs p).isSome), h) := by
  refine eq_of_wp (is.call rfl ?_)
  unfold isRingB
  have hz : sizeLine = 2 ^ 24 := rfl
  by_cases tp : ∃ ps, p = .tup ps
  · obtain ⟨ps, rfl⟩ := tp
    have pl := hp ps rfl
    have nbs := nbs_iff.mp (show nbsD ps = true by rw [nbD] at nb; exact nb)
    match ps, pl, nbs with
    | [], _, _ =>
      refine w_cut (fun _ _ => False) ?_ (fun _ _ z => z.elim)
      simp only [Pe.Pw.ws, List.set_cons_zero, List.set_cons_succ, List.length_cons, List.length_nil, List.map_cons, List.map_nil, List.cons_append, List.nil_append, List.replicate_succ, List.replicate_zero, Nat.reduceSub, Nat.reduceAdd, Nat.reduceLT, true_and, and_true, if_true, Bool.false_eq_true, if_false, true_implies, false_implies, forall_const, decide_eq_true_eq, decide_eq_false_iff_not, Bool.not_eq_true', Bool.not_eq_false', reduceCtorEq, tyIs, List.any_cons, List.any_nil, Bool.or_false, Bool.not_true, take_self]
      exact ⟨fun _ => rfl, fun c => absurd (by decide) c⟩
    | [q], _, _ =>
      refine w_cut (fun _ _ => False) ?_ (fun _ _ z => z.elim)
      simp only [Pe.Pw.ws, List.set_cons_zero, List.set_cons_succ, List.length_cons, List.length_nil, List.map_cons, List.map_nil, List.cons_append, List.nil_append, List.replicate_succ, List.replicate_zero, Nat.reduceSub, Nat.reduceAdd, Nat.reduceLT, true_and, and_true, if_true, Bool.false_eq_true, if_false, true_implies, false_implies, forall_const, decide_eq_true_eq, decide_eq_false_iff_not, Bool.not_eq_true', Bool.not_eq_false', reduceCtorEq, tyIs, List.any_cons, List.any_nil, Bool.or_false, Bool.not_true, take_self]
      exact ⟨fun _ => rfl, fun c => absurd (by decide) c⟩
    | q0 :: q1 :: ps, pl, nbs =>
      have a0 : L2.atI (q0 :: q1 :: ps) 0 = some q0 := by show L2.atI _ ((0 : Nat) : Int) = _; rw [atI_nat]; rfl
      have n2 : ¬ (((q0 :: q1 :: ps).length : Nat) : Int) < 2 := by rw [List.length_cons, List.length_cons]; omega
      have rg : rgD rs (.tup (q0 :: q1 :: ps)) = rgV rs (q0 :: q1 :: ps) := by
        show (if (q0 :: q1 :: ps).length < 2 then none else rgV rs (q0 :: q1 :: ps)) = _
        rw [if_neg (by rw [List.length_cons, List.length_cons]; omega)]
      rw [rg]
      have s0 := isSideG_e (h := h) (d := d + 1) (rs := rs) (p := q0) isd iir iim (nbs q0 List.mem_cons_self) hl
      have wd : wayD rs = fun x y p => wayD rs x y p := rfl
      cases f0 : fnd rs q0 with
      | none =>
        have : rgV rs (q0 :: q1 :: ps) = none := by unfold rgV arcsV; rw [f0]
        rw [this]
        rw [f0] at s0
        refine w_cut (fun _ _ => False) ?_ (fun _ _ z => z.elim)
        simp only [Pe.Pw.ws, List.set_cons_zero, List.set_cons_succ, List.length_cons, List.length_nil, List.map_cons, List.map_nil, List.cons_append, List.nil_append, List.replicate_succ, List.replicate_zero, Nat.reduceSub, Nat.reduceAdd, Nat.reduceLT, true_and, and_true, if_true, Bool.false_eq_true, if_false, true_implies, false_implies, forall_const, decide_eq_true_eq, decide_eq_false_iff_not, Bool.not_eq_true', Bool.not_eq_false', reduceCtorEq, tyIs, List.any_cons, List.any_nil, Bool.or_false, Bool.not_true]
        have n3 : ¬ ((ps.length + 1 + 1 : Nat) : Int) < 2 := by omega
        refine ⟨fun c => absurd c n3, fun _ => ?_⟩
        simp only [Pe.Pw.ws, List.set_cons_zero, List.set_cons_succ, List.length_cons, List.length_nil, List.map_cons, List.map_nil, List.cons_append, List.nil_append, List.replicate_succ, List.replicate_zero, Nat.reduceSub, Nat.reduceAdd, Nat.reduceLT, true_and, and_true, if_true, Bool.false_eq_true, if_false, true_implies, false_implies, forall_const, decide_eq_true_eq, decide_eq_false_iff_not, Bool.not_eq_true', Bool.not_eq_false', reduceCtorEq, w_ixT a0, w_iff s0, Option.isSome_none, take_self]
      | some r0 =>
        obtain ⟨m0, e0⟩ := fnd_some (nbs q0 List.mem_cons_self) f0
        rw [f0] at s0
        have se0 := sideEnds_e (h := h) (d := d + 2) ise m0
        rw [e0] at se0
        have iw1 := isWayG_e (h := h) (d := d) (mk := mk) (x := r0.a) (y := r0.a) (rs := rs) (p := .tup (q0 :: q1 :: ps)) iw_ isd ise iir iim nb hl (fun qs e => by cases e; omega)
        have wv : wayD rs r0.a r0.a (.tup (q0 :: q1 :: ps)) = match arcsV rs (q0 :: q1 :: ps) with
          | some l => chainB r0.a r0.a l
          | none => false := way_chain
        rw [wv] at iw1
        generalize hqs : (q0 :: q1 :: ps) = qs at *
        let E : Option PV → Env := fun e3 => [some (.d mk), some (.d (rsD rs)), some (.d (.tup qs)), e3, none]
        have b0 : ∀ a b c : D, L2.atI [a, b, c] 0 = some a := fun _ _ _ => rfl
        refine w_cut (fun e hh => hh = h ∧ e = E none) ?_ ?_
        · simp only [Pe.Pw.ws, List.set_cons_zero, List.set_cons_succ, List.length_cons, List.length_nil, List.map_cons, List.map_nil, List.cons_append, List.nil_append, List.replicate_succ, List.replicate_zero, Nat.reduceSub, Nat.reduceAdd, Nat.reduceLT, true_and, and_true, if_true, Bool.false_eq_true, if_false, true_implies, false_implies, forall_const, decide_eq_true_eq, decide_eq_false_iff_not, Bool.not_eq_true', Bool.not_eq_false', reduceCtorEq, tyIs, List.any_cons, List.any_nil, Bool.or_false, Bool.not_true, n2]
          intro _
          simp only [Pe.Pw.ws, List.set_cons_zero, List.set_cons_succ, List.length_cons, List.length_nil, List.map_cons, List.map_nil, List.cons_append, List.nil_append, List.replicate_succ, List.replicate_zero, Nat.reduceSub, Nat.reduceAdd, Nat.reduceLT, true_and, and_true, if_true, Bool.false_eq_true, if_false, true_implies, false_implies, forall_const, decide_eq_true_eq, decide_eq_false_iff_not, Bool.not_eq_true', Bool.not_eq_false', reduceCtorEq, w_ixT a0, w_iff s0, Option.isSome_some]
          exact rfl
        rintro _ h ⟨rfl, rfl⟩
        refine w_cut (fun e hh => hh = h ∧ e = E (some (.d (.int (r0.a : Nat))))) ?_ ?_
        · simp only [Pe.Pw.ws, List.set_cons_zero, List.set_cons_succ, List.length_cons, List.length_nil, List.map_cons, List.map_nil, List.cons_append, List.nil_append, List.replicate_succ, List.replicate_zero, Nat.reduceSub, Nat.reduceAdd, Nat.reduceLT, true_and, and_true, if_true, Bool.false_eq_true, if_false, true_implies, false_implies, forall_const, decide_eq_true_eq, decide_eq_false_iff_not, Bool.not_eq_true', Bool.not_eq_false', reduceCtorEq, E, w_ixT a0, w_iff se0, w_ixT (b0 _ _ _)]
        rintro _ h ⟨rfl, rfl⟩
        cases q : arcsV rs qs with
        | none =>
          have : rgV rs qs = none := by unfold rgV; rw [q]
          rw [this]
          rw [q] at iw1
          refine w_cut (fun _ _ => False) ?_ (fun _ _ z => z.elim)
          simp only [Pe.Pw.ws, List.set_cons_zero, List.set_cons_succ, List.length_cons, List.length_nil, List.map_cons, List.map_nil, List.cons_append, List.nil_append, List.replicate_succ, List.replicate_zero, Nat.reduceSub, Nat.reduceAdd, Nat.reduceLT, true_and, and_true, if_true, Bool.false_eq_true, if_false, true_implies, false_implies, forall_const, decide_eq_true_eq, decide_eq_false_iff_not, Bool.not_eq_true', Bool.not_eq_false', reduceCtorEq, E, w_iff iw1, Bool.not_false, take_self]
          exact rfl
        | some l =>
          obtain ⟨lm, le⟩ := arcsV_some nbs q
          obtain ⟨l', rfl⟩ : ∃ l', l = r0 :: l' := by
            rw [← hqs] at q
            unfold arcsV at q
            rw [f0] at q
            cases q2 : arcsV rs (q1 :: ps) with
            | none => rw [q2] at q; cases q
            | some l2 => rw [q2] at q; cases q; exact ⟨l2, rfl⟩
          rw [q] at iw1
          have cb : chainB r0.a r0.a (r0 :: l') = (consB r0.b l' && decide (endO r0.b l' = r0.a)) := by
            show (decide (r0.a = r0.a) && chainB r0.a r0.b l') = _
            rw [decide_eq_true rfl, Bool.true_and, chain_cons]
          dsimp only at iw1
          rw [cb] at iw1
          have rv : rgV rs qs = if consB r0.b l' && decide (endO r0.b l' = r0.a) && decide ((met ((r0 :: l').map fun q => (q.a : Int))).length = l'.length + 1) then some (r0 :: l') else none := by unfold rgV; rw [q]
          rw [rv]
          cases cc : (consB r0.b l' && decide (endO r0.b l' = r0.a)) with
          | false =>
            rw [cc] at iw1
            refine w_cut (fun _ _ => False) ?_ (fun _ _ z => z.elim)
            simp only [Pe.Pw.ws, List.set_cons_zero, List.set_cons_succ, List.length_cons, List.length_nil, List.map_cons, List.map_nil, List.cons_append, List.nil_append, List.replicate_succ, List.replicate_zero, Nat.reduceSub, Nat.reduceAdd, Nat.reduceLT, true_and, and_true, if_true, Bool.false_eq_true, if_false, true_implies, false_implies, forall_const, decide_eq_true_eq, decide_eq_false_iff_not, Bool.not_eq_true', Bool.not_eq_false', reduceCtorEq, E, w_iff iw1, Bool.not_false, take_self, Bool.false_and, Bool.false_eq_true]
            exact rfl
          | true =>
            rw [cc] at iw1
            refine w_cut (fun e hh => hh = h ∧ e = E (some (.d (.int (r0.a : Nat))))) ?_ ?_
            · simp only [Pe.Pw.ws, List.set_cons_zero, List.set_cons_succ, List.length_cons, List.length_nil, List.map_cons, List.map_nil, List.cons_append, List.nil_append, List.replicate_succ, List.replicate_zero, Nat.reduceSub, Nat.reduceAdd, Nat.reduceLT, true_and, and_true, if_true, Bool.false_eq_true, if_false, true_implies, false_implies, forall_const, decide_eq_true_eq, decide_eq_false_iff_not, Bool.not_eq_true', Bool.not_eq_false', reduceCtorEq, E, w_iff iw1, Bool.not_true]
            rintro _ h ⟨rfl, rfl⟩
            have ql : qs.length = l'.length + 1 := by rw [le, List.length_map, List.length_cons]
            simp only [Pe.Pw.ws, List.set_cons_zero, List.set_cons_succ, List.length_cons, List.length_nil, List.map_cons, List.map_nil, List.cons_append, List.nil_append, List.replicate_succ, List.replicate_zero, Nat.reduceSub, Nat.reduceAdd, Nat.reduceLT, true_and, and_true, if_true, Bool.false_eq_true, if_false, true_implies, false_implies, forall_const, decide_eq_true_eq, decide_eq_false_iff_not, Bool.not_eq_true', Bool.not_eq_false', reduceCtorEq, E, w_lsc]
            refine w_clx (r0 :: l') (fun r => .d r.s) (fun r => .d (.int (r.a : Nat))) (by rw [show ((r0 :: l').map fun r => PV.d r.s) = ((r0 :: l').map Ar.s).map PV.d by rw [List.map_map]; rfl, ← le]; exact its_imm) (by rw [List.length_cons]; omega) (fun r hx => ?_) ?_
            · have sr := sideEnds_e (h := h) (d := d + 2) ise (lm r hx)
              simp only [Pe.Pw.ws, List.set_cons_zero, List.set_cons_succ, List.length_cons, List.length_nil, List.map_cons, List.map_nil, List.cons_append, List.nil_append, List.replicate_succ, List.replicate_zero, Nat.reduceSub, Nat.reduceAdd, Nat.reduceLT, true_and, and_true, if_true, Bool.false_eq_true, if_false, true_implies, false_implies, forall_const, decide_eq_true_eq, decide_eq_false_iff_not, Bool.not_eq_true', Bool.not_eq_false', reduceCtorEq, w_iff sr, w_ixT (b0 _ _ _)]
            · rw [show ((r0 :: l').map fun r => PV.d (.int (r.a : Nat))) = (((r0 :: l').map fun q => (q.a : Int)).map D.int).map .d by rw [List.map_map, List.map_map]; rfl, w_difS (by rw [List.length_map, List.length_cons]; omega)]
              simp only [Pe.Pw.ws, List.set_cons_zero, List.set_cons_succ, List.length_cons, List.length_nil, List.map_cons, List.map_nil, List.cons_append, List.nil_append, List.replicate_succ, List.replicate_zero, Nat.reduceSub, Nat.reduceAdd, Nat.reduceLT, true_and, and_true, if_true, Bool.false_eq_true, if_false, true_implies, false_implies, forall_const, decide_eq_true_eq, decide_eq_false_iff_not, Bool.not_eq_true', Bool.not_eq_false', reduceCtorEq]
              rw [take_self, ql, Bool.true_and]
              have dd : decide (((met ((r0 :: l').map fun q => (q.a : Int))).length : Int) = ((l'.length + 1 : Nat) : Int)) = decide ((met ((r0 :: l').map fun q => (q.a : Int))).length = l'.length + 1) := decide_eq_decide.mpr (by omega)
              rw [List.map_cons] at dd
              rw [dd]
              cases decide ((met ((r0.a : Int) :: l'.map fun q => (q.a : Int))).length = l'.length + 1) <;> exact ⟨rfl, rfl⟩
  · have ty : tyIs h (.d p) .tuple = false := by
      cases p with
      | tup ps => exact absurd ⟨ps, rfl⟩ tp
      | _ => rfl
    have w : rgD rs p = none := by
      cases p with
      | tup ps => exact absurd ⟨ps, rfl⟩ tp
      | _ => rfl
    rw [w]
    refine w_cut (fun _ _ => False) ?_ (fun _ _ z => z.elim)
    simp only [Pe.Pw.ws, List.set_cons_zero, List.set_cons_succ, List.length_cons, List.length_nil, List.map_cons, List.map_nil, List.cons_append, List.nil_append, List.replicate_succ, List.replicate_zero, Nat.reduceSub, Nat.reduceAdd, Nat.reduceLT, true_and, and_true, if_true, Bool.false_eq_true, if_false, true_implies, false_implies, forall_const, decide_eq_true_eq, decide_eq_false_iff_not, Bool.not_eq_true', Bool.not_eq_false', reduceCtorEq, List.any_cons, List.any_nil, Bool.or_false, ty, Bool.not_false, take_self]
    exact rfl
theorem wayWeightG_e {se : Nat} {l : List Ar} {ps : List D} (is : Is FT f 2 3 (wayWeightB se)) (ise : Is FT se 2 8 sideEndsB) (nb : nbD (.tup ps) = true) (e : arcsV rs ps = some l) (hl : ps.length ≤ 10000) : cal FT (d + 2) f [.d (rsD rs), .d (.tup ps)] h = some (.d (.int (l.map Ar.w).sum), h) := by
  have nbs := nbs_iff.mp (show nbsD ps = true by rw [nbD] at nb; exact nb)
  obtain ⟨lm, rfl⟩ := arcsV_some nbs e
  exact wayWeight_e is ise lm (by rw [List.length_map] at hl; exact hl)
theorem isClashG_e {ri ww sd se iw ir im : Nat} (is : Is FT f 3 3 (isClashRB ri ww)) (iri : Is FT ri 3 5 (isRingB sd se iw)) (iww : Is FT ww 2 3 (wayWeightB se)) (iw_ : Is FT iw 5 11 (isWayB sd se)) (isd : Is FT sd 2 4 (isSideB ir im)) (ise : Is FT se 2 8 sideEndsB) (iir : Is FT ir 2 2 isRowB) (iim : Is FT im 1 1 isNumB) (nb : nbD p = true) (hl : rs.length ≤ 1000) (hp : ∀ ps, p = .tup ps → ps.length < 1000) :
    cal FT (d + 5) f [.d mk, .d (rsD rs), .d p] h = some (.d (.bl (clD rs p)), h) := by
  refine eq_of_wp (is.call rfl ?_)
  unfold isClashRB
  have e1 := isRingG_e (h := h) (d := d) (mk := mk) (rs := rs) (p := p) iri iw_ isd ise iir iim nb hl hp
  cases q : rgD rs p with
  | none =>
    have : clD rs p = false := by unfold clD; rw [q]
    rw [this]
    rw [q] at e1
    simp only [Pe.Pw.ws, List.set_cons_zero, List.set_cons_succ, List.length_cons, List.length_nil, List.map_cons, List.map_nil, List.cons_append, List.nil_append, List.replicate_succ, List.replicate_zero, Nat.reduceSub, Nat.reduceAdd, Nat.reduceLT, true_and, and_true, if_true, Bool.false_eq_true, if_false, true_implies, false_implies, forall_const, decide_eq_true_eq, decide_eq_false_iff_not, Bool.not_eq_true', Bool.not_eq_false', reduceCtorEq, w_iff e1, Option.isSome_none, take_self]
  | some l =>
    have : clD rs p = decide ((l.map Ar.w).sum < 0) := by unfold clD; rw [q]
    rw [this]
    rw [q] at e1
    obtain ⟨ps, rfl⟩ : ∃ ps, p = .tup ps := by
      cases p with
      | tup ps => exact ⟨ps, rfl⟩
      | _ => cases q
    have ev : arcsV rs ps = some l := by
      have q2 : (if ps.length < 2 then none else rgV rs ps) = some l := q
      split at q2
      · cases q2
      · unfold rgV at q2
        split at q2
        · split at q2
          · rename_i e _
            rw [e]
            exact q2
          · cases q2
        · cases q2
    have e2 := wayWeightG_e (h := h) (d := d + 2) (rs := rs) iww ise nb ev (by have := hp ps rfl; omega)
    simp only [Pe.Pw.ws, List.set_cons_zero, List.set_cons_succ, List.length_cons, List.length_nil, List.map_cons, List.map_nil, List.cons_append, List.nil_append, List.replicate_succ, List.replicate_zero, Nat.reduceSub, Nat.reduceAdd, Nat.reduceLT, true_and, and_true, if_true, Bool.false_eq_true, if_false, true_implies, false_implies, forall_const, decide_eq_true_eq, decide_eq_false_iff_not, Bool.not_eq_true', Bool.not_eq_false', reduceCtorEq, w_iff e1, Option.isSome_some, w_iff e2, take_self]
end
end Pe.Pw
/-! Pe: the law's rings and ways at arbitrary things. -/
namespace Pe.Pw
open PySem
theorem s_sm {rs : List Rd} {r : Ar} {k : Nat} (h : r ∈ allA 0 rs) : Sm (k + 1) r.s := by
  obtain ⟨i, rd, _, c⟩ := mem_allA rs 0 h
  have two : ∀ a b : Int, Sm (k + 1) (.tup [.int a, .int b]) := fun a b => ⟨(sz : 2 ≤ sizeLine), fun x hx => by
    simp only [List.mem_cons, List.not_mem_nil, or_false] at hx
    rcases hx with rfl | rfl <;> cases k <;> exact True.intro⟩
  rcases c with ⟨e, _⟩ | ⟨e, _⟩ <;> rw [e] <;> exact two _ _
theorem arcsV_app {rs : List Rd} : ∀ {a b : List D}, arcsV rs (a ++ b) = match arcsV rs a, arcsV rs b with
    | some l, some t => some (l ++ t)
    | _, _ => none
  | [], b => by
    rw [List.nil_append]
    show arcsV rs b = match some [], arcsV rs b with
      | some l, some t => some (l ++ t)
      | _, _ => none
    cases arcsV rs b <;> rfl
  | p :: a, b => by
    rw [List.cons_append]
    show (match fnd rs p, arcsV rs (a ++ b) with
      | some r, some l => some (r :: l)
      | _, _ => none) = match (match fnd rs p, arcsV rs a with
      | some r, some l => some (r :: l)
      | _, _ => none), arcsV rs b with
      | some l, some t => some (l ++ t)
      | _, _ => none
    rw [arcsV_app (a := a)]
    cases fnd rs p <;> cases arcsV rs a <;> cases arcsV rs b <;> rfl
theorem consB_app : ∀ {x : Nat} {l t : List Ar}, consB x (l ++ t) = (consB x l && consB (endO x l) t)
  | x, [], t => by simp [consB, endO]
  | x, r :: l, t => by
    show (decide (r.a = x) && consB r.b (l ++ t)) = ((decide (r.a = x) && consB r.b l) && consB (endO r.b l) t)
    rw [consB_app, Bool.and_assoc]
theorem endO_app : ∀ {x : Nat} {l t : List Ar}, endO x (l ++ t) = endO (endO x l) t
  | x, [], t => rfl
  | x, r :: l, t => endO_app (l := l)
theorem endO_last {r : Ar} {l : List Ar} : ∀ {x : Nat}, endO x (l ++ [r]) = r.b := fun {x} => by rw [endO_app]; rfl
/-- the arcs found so far hang together -/
def hangB : List Ar → Bool
  | [] => true
  | r :: l => consB r.b l
theorem hang_snoc {l : List Ar} {q r : Ar} : hangB (l ++ [q] ++ [r]) = (hangB (l ++ [q]) && decide (r.a = q.b)) := by
  cases l with
  | nil => simp [hangB, consB]
  | cons x l =>
    show consB x.b (l ++ [q] ++ [r]) = (consB x.b (l ++ [q]) && decide (r.a = q.b))
    rw [consB_app, endO_last]
    simp [consB]
theorem hang_pre {l t : List Ar} (h : hangB (l ++ t) = true) : hangB l = true := by
  cases l with
  | nil => rfl
  | cons x l =>
    have h : consB x.b (l ++ t) = true := h
    rw [consB_app, Bool.and_eq_true] at h
    exact h.1
theorem rgV_none_find {rs : List Rd} {ps : List D} {i : Nat} {p : D} (e : ps[i]? = some p) (f : fnd rs p = none) : rgV rs ps = none := by
  have hi := (List.getElem?_eq_some_iff.mp e).1
  have : arcsV rs ps = none := by
    rw [← List.take_append_drop i ps, arcsV_app, List.drop_eq_getElem_cons hi]
    rw [List.getElem?_eq_getElem hi] at e
    rw [Option.some.inj e]
    have : arcsV rs (p :: ps.drop (i + 1)) = none := by
      unfold arcsV
      rw [f]
    rw [this]
    cases arcsV rs (ps.take i) <;> rfl
  unfold rgV
  rw [this]
theorem rgV_hang {rs : List Rd} {ps : List D} {l : List Ar} (e : arcsV rs ps = some l) (h : hangB l = false) : rgV rs ps = none := by
  unfold rgV
  rw [e]
  cases l with
  | nil => rfl
  | cons r l =>
    have h : consB r.b l = false := h
    simp [h]
theorem arcsV_len {rs : List Rd} : ∀ {ps : List D} {l : List Ar}, arcsV rs ps = some l → l.length = ps.length
  | [], l, h => by cases h; rfl
  | p :: ps, l, h => by
    unfold arcsV at h
    cases q : fnd rs p with
    | none => rw [q] at h; cases h
    | some r =>
      rw [q] at h
      cases q2 : arcsV rs ps with
      | none => rw [q2] at h; cases h
      | some l2 =>
        rw [q2] at h
        cases h
        rw [List.length_cons, List.length_cons, arcsV_len q2]
theorem snoc_cases {α : Type} : ∀ l : List α, l = [] ∨ ∃ a x, l = a ++ [x] := fun l => by
  rcases List.eq_nil_or_concat l with e | ⟨a, x, e⟩
  · exact .inl e
  · exact .inr ⟨a, x, by rw [e, List.concat_eq_append]⟩
section
variable {FT : List Fn} {h : Hs} {Q : PV → Hs → Prop} {n d f m : Nat} {rs : List Rd} {p : D} {ps : List D}
theorem ar_3 {r : Ar} : L2.atI [.int (r.a : Nat), .int (r.b : Nat), .int r.w, r.s] 3 = some r.s := rfl
theorem ar_0 {r : Ar} : L2.atI [D.int (r.a : Nat), .int (r.b : Nat), .int r.w, r.s] 0 = some (.int (r.a : Nat)) := rfl
theorem ar_1 {r : Ar} : L2.atI [D.int (r.a : Nat), .int (r.b : Nat), .int r.w, r.s] 1 = some (.int (r.b : Nat)) := rfl
theorem ar_2 {r : Ar} : L2.atI [D.int (r.a : Nat), .int (r.b : Nat), .int r.w, r.s] 2 = some (.int r.w) := rfl
theorem its_cellM {α : Type} {l : List α} {g : α → D} {c : Nat} (e : h[c]? = some (.lst ((l.map g).map .d))) : Its (.seq (.cell c)) h (l.map fun x => PV.d (g x)) := by
  have := its_cell e
  rw [List.map_map] at this
  exact this
def lisWayB (la : Nat) : List S := [.ife (.nt (.blt (.isi [.tuple]) [(.var 3)])) [.ret (.cst (.bl false))] [], .asg (.nm 4) (.call la [(.var 0)]), .asg (.nm 5) (.var 1), .fr (.nm 6) (.seq (.var 3)) [.asg (.nm 7) (.comp [8] (.nm 8) (.seq (.var 4)) true (.cmp .eq (.idx (.var 8) (.cst (.int 3))) (.var 6)) (.var 8)), .ife (.orr (.cmp .eq (.blt .len [(.var 7)]) (.cst (.int 0))) (.cmp .ne (.idx (.idx (.var 7) (.cst (.int 0))) (.cst (.int 0))) (.var 5))) [.ret (.cst (.bl false))] [], .asg (.nm 5) (.idx (.idx (.var 7) (.cst (.int 0))) (.cst (.int 1)))], .ret (.cmp .eq (.var 5) (.var 2))]
/-- what is found -/
def fdD (rs : List Rd) (p : D) : List D := ((allA 0 rs).filter fun r => PyData.eqv r.s.py p.py).map Ar.D
theorem fdD_none (nb : nbD p = true) (e : fnd rs p = none) : fdD rs p = [] := by
  unfold fdD
  rw [fnd_filter nb, e]
  rfl
theorem fdD_some {r : Ar} (nb : nbD p = true) (e : fnd rs p = some r) : ∃ t, fdD rs p = r.D :: t := by
  unfold fdD
  rw [fnd_filter nb, e]
  exact ⟨_, rfl⟩
theorem lisWay_e {la x y : Nat} (is : Is FT f 4 9 (lisWayB la)) (ila : Is FT la 1 7 larcsB) (nb : nbD p = true) (sm : ∀ ps, p = .tup ps → ∀ q ∈ ps, Sm 9 q) (hl : rs.length ≤ 1000) : cal FT (d + 2) f [.d (rsD rs), .d (.int (x : Nat)), .d (.int (y : Nat)), .d p] h = some (.d (.bl (wayD rs x y p)), h) := by
  refine eq_of_wp (is.call rfl ?_)
  unfold lisWayB
  have hz : sizeLine = 2 ^ 24 := rfl
  by_cases tp : ∃ ps, p = .tup ps
  · obtain ⟨ps, rfl⟩ := tp
    have nbs := nbs_iff.mp (show nbsD ps = true by rw [nbD] at nb; exact nb)
    have sms := sm ps rfl
    show Wp _ _ _
    rw [show wayD rs x y (.tup ps) = wayV rs y x ps from rfl]
    let E : Option PV → Option PV → Option PV → Option PV → Option PV → Env := fun e4 e5 e6 e7 e8 => [some (.d (rsD rs)), some (.d (.int (x : Nat))), some (.d (.int (y : Nat))), some (.d (.tup ps)), e4, e5, e6, e7, e8]
    refine w_cut (fun e hh => hh = h ∧ e = E none none none none none) ?_ ?_
    · simp only [Pe.Pw.ws, List.set_cons_zero, List.set_cons_succ, List.length_cons, List.length_nil, List.map_cons, List.map_nil, List.cons_append, List.nil_append, List.replicate_succ, List.replicate_zero, Nat.reduceSub, Nat.reduceAdd, Nat.reduceLT, true_and, and_true, if_true, Bool.false_eq_true, if_false, true_implies, false_implies, forall_const, decide_eq_true_eq, decide_eq_false_iff_not, Bool.not_eq_true', Bool.not_eq_false', reduceCtorEq, tyIs, List.any_cons, List.any_nil, Bool.or_false, Bool.not_true]
      exact rfl
    rintro _ h ⟨rfl, rfl⟩
    refine w_cut (fun e hh => hh = h ++ [Cell.lst (((allA 0 rs).map Ar.D).map .d)] ∧ e = E (some (.ref h.length)) none none none none) ?_ ?_
    · simp only [Pe.Pw.ws, List.set_cons_zero, List.set_cons_succ, List.length_cons, List.length_nil, List.map_cons, List.map_nil, List.cons_append, List.nil_append, List.replicate_succ, List.replicate_zero, Nat.reduceSub, Nat.reduceAdd, Nat.reduceLT, true_and, and_true, if_true, Bool.false_eq_true, if_false, true_implies, false_implies, forall_const, decide_eq_true_eq, decide_eq_false_iff_not, Bool.not_eq_true', Bool.not_eq_false', reduceCtorEq, E, w_iff (larcs_e (h := h) (d := d) ila hl), conv_tld]
    rintro _ _ ⟨rfl, rfl⟩
    refine w_cut (fun e hh => hh = h ++ [Cell.lst (((allA 0 rs).map Ar.D).map .d)] ∧ e = E (some (.ref h.length)) (some (.d (.int (x : Nat)))) none none none) ?_ ?_
    · simp only [Pe.Pw.ws, List.set_cons_zero, List.set_cons_succ, List.length_cons, List.length_nil, List.map_cons, List.map_nil, List.cons_append, List.nil_append, List.replicate_succ, List.replicate_zero, Nat.reduceSub, Nat.reduceAdd, Nat.reduceLT, true_and, and_true, if_true, Bool.false_eq_true, if_false, true_implies, false_implies, forall_const, decide_eq_true_eq, decide_eq_false_iff_not, Bool.not_eq_true', Bool.not_eq_false', reduceCtorEq, E]
    rintro _ _ ⟨rfl, rfl⟩
    have al := allA_len (rs := rs) (k := 0)
    refine w_cut (fun e hh => ∃ (gs : Hs) (now : Nat) (e6 e7 e8 : Option PV), hh = h ++ Cell.lst (((allA 0 rs).map Ar.D).map .d) :: gs ∧ decide (now = y) = wayV rs y x ps ∧ e = E (some (.ref h.length)) (some (.d (.int (now : Nat)))) e6 e7 e8) ?_ ?_
    · simp only [Pe.Pw.ws, List.set_cons_zero, List.set_cons_succ, List.length_cons, List.length_nil, List.map_cons, List.map_nil, List.cons_append, List.nil_append, List.replicate_succ, List.replicate_zero, Nat.reduceSub, Nat.reduceAdd, Nat.reduceLT, true_and, and_true, if_true, Bool.false_eq_true, if_false, true_implies, false_implies, forall_const, decide_eq_true_eq, decide_eq_false_iff_not, Bool.not_eq_true', Bool.not_eq_false', reduceCtorEq, E]
      refine w_for (ps.map .d) (fun i e hh => ∃ (gs : Hs) (now : Nat) (e6 e7 e8 : Option PV), hh = h ++ Cell.lst (((allA 0 rs).map Ar.D).map .d) :: gs ∧ wayV rs y now (ps.drop i) = wayV rs y x ps ∧ e = E (some (.ref h.length)) (some (.d (.int (now : Nat)))) e6 e7 e8) ⟨[], x, _, _, _, rfl, rfl, rfl⟩ (fun _ _ _ _ _ => its_imm) (fun i e hh v ev q => ?_) fun e hh q => ?_
      · obtain ⟨gs, now, e6, e7, e8, rfl, wv, rfl⟩ := q
        have hi := (List.getElem?_eq_some_iff.mp ev).1
        rw [List.length_map] at hi
        rw [List.getElem?_map, List.getElem?_eq_getElem hi] at ev
        cases ev
        have hq := List.getElem_mem hi
        rw [List.drop_eq_getElem_cons hi] at wv
        generalize ps[i] = q at *
        have nq := nbs q hq
        have sq := sms q hq
        refine w_nm.mpr ⟨(by decide : 6 < 9), ?_⟩
        rw [conv_d]
        have cg : (h ++ Cell.lst (((allA 0 rs).map Ar.D).map .d) :: gs)[h.length]? = some (.lst (((allA 0 rs).map Ar.D).map .d)) := gA0
        refine w_cut (fun e hh => hh = (h ++ Cell.lst (((allA 0 rs).map Ar.D).map .d) :: gs) ++ [Cell.lst ((fdD rs q).map .d)] ∧ ∃ e8, e = E (some (.ref h.length)) (some (.d (.int (now : Nat)))) (some (.d q)) (some (.ref (h ++ Cell.lst (((allA 0 rs).map Ar.D).map .d) :: gs).length)) e8) ?_ ?_
        · simp only [Pe.Pw.ws, List.set_cons_zero, List.set_cons_succ, List.length_cons, List.length_nil, List.map_cons, List.map_nil, List.cons_append, List.nil_append, List.replicate_succ, List.replicate_zero, Nat.reduceSub, Nat.reduceAdd, Nat.reduceLT, true_and, and_true, if_true, Bool.false_eq_true, if_false, true_implies, false_implies, forall_const, decide_eq_true_eq, decide_eq_false_iff_not, Bool.not_eq_true', Bool.not_eq_false', reduceCtorEq, E]
          refine w_clf (h := h ++ Cell.lst (((allA 0 rs).map Ar.D).map .d) :: gs) (allA 0 rs) (fun r => .d r.D) (fun r => if PyData.eqv r.s.py q.py then some (.d r.D) else none) (its_cellM cg) (by omega) (fun r hr => ?_) ?_
          · unfold Ar.D
            simp only [Pe.Pw.ws, List.set_cons_zero, List.set_cons_succ, List.length_cons, List.length_nil, List.map_cons, List.map_nil, List.cons_append, List.nil_append, List.replicate_succ, List.replicate_zero, Nat.reduceSub, Nat.reduceAdd, Nat.reduceLT, true_and, and_true, if_true, Bool.false_eq_true, if_false, true_implies, false_implies, forall_const, decide_eq_true_eq, decide_eq_false_iff_not, Bool.not_eq_true', Bool.not_eq_false', reduceCtorEq, w_ixT ar_3, w_eqD (k := 9) (by decide) (s_sm (k := 8) hr) sq]
            cases PyData.eqv r.s.py q.py <;> simp
          · rw [fm_filter, show ((allA 0 rs).filter fun r => PyData.eqv r.s.py q.py).map (fun r => PV.d r.D) = (fdD rs q).map .d by unfold fdD; rw [List.map_map]; rfl, conv_tld]
            exact ⟨rfl, _, rfl⟩
        rintro _ _ ⟨rfl, e8, rfl⟩
        generalize hG : (h ++ Cell.lst (((allA 0 rs).map Ar.D).map .d) :: gs) = G at *
        have tkG : G.take h.length = h := by rw [← hG, List.take_left]
        have hhG : h.length ≤ G.length := by rw [← hG, List.length_append]; omega
        have cf : (G ++ [Cell.lst ((fdD rs q).map .d)])[G.length]? = some (.lst ((fdD rs q).map .d)) := gA0
        cases f : fnd rs q with
        | none =>
          have l0 : (((fdD rs q).map PV.d).length : Int) = 0 := by rw [fdD_none nq f]; rfl
          have : wayV rs y now (q :: ps.drop (i + 1)) = false := by unfold wayV; rw [f]
          rw [this] at wv
          rw [← wv]
          refine w_cut (fun _ _ => False) ?_ (fun _ _ z => z.elim)
          simp only [Pe.Pw.ws, List.set_cons_zero, List.set_cons_succ, List.length_cons, List.length_nil, List.map_cons, List.map_nil, List.cons_append, List.nil_append, List.replicate_succ, List.replicate_zero, Nat.reduceSub, Nat.reduceAdd, Nat.reduceLT, true_and, and_true, if_true, Bool.false_eq_true, if_false, true_implies, false_implies, forall_const, decide_eq_true_eq, decide_eq_false_iff_not, Bool.not_eq_true', Bool.not_eq_false', reduceCtorEq, E, w_lenR cf]
          rw [List.take_append_of_le_length hhG, tkG]
          exact ⟨fun _ => rfl, fun c => absurd l0 c⟩
        | some r =>
          obtain ⟨t, et⟩ := fdD_some nq f
          have wv2 : (decide (r.a = now) && wayV rs y r.b (ps.drop (i + 1))) = wayV rs y x ps := by
            rw [← wv]
            show _ = (match fnd rs q with
              | some r => decide (r.a = now) && wayV rs y r.b (ps.drop (i + 1))
              | none => false)
            rw [f]
          have c00 : L2.atI ((fdD rs q).map PV.d) 0 = some (.d (.tup [.int (r.a : Nat), .int (r.b : Nat), .int r.w, r.s])) := by rw [et]; show L2.atI _ ((0 : Nat) : Int) = _; rw [atI_nat]; rfl
          have l0 : ¬ (((fdD rs q).map PV.d).length : Int) = 0 := by rw [et, List.length_map, List.length_cons]; omega
          generalize fdD rs q = fl at *
          by_cases ne : r.a = now
          · rw [decide_eq_true ne, Bool.true_and] at wv2
            refine w_cut (fun e hh => hh = G ++ [Cell.lst (fl.map .d)] ∧ e = E (some (.ref h.length)) (some (.d (.int (now : Nat)))) (some (.d q)) (some (.ref G.length)) e8) ?_ ?_
            · simp only [Pe.Pw.ws, List.set_cons_zero, List.set_cons_succ, List.length_cons, List.length_nil, List.map_cons, List.map_nil, List.cons_append, List.nil_append, List.replicate_succ, List.replicate_zero, Nat.reduceSub, Nat.reduceAdd, Nat.reduceLT, true_and, and_true, if_true, Bool.false_eq_true, if_false, true_implies, false_implies, forall_const, decide_eq_true_eq, decide_eq_false_iff_not, Bool.not_eq_true', Bool.not_eq_false', reduceCtorEq, E, w_lenR cf]
              refine ⟨fun c => absurd c l0, fun _ => ?_⟩
              simp only [Pe.Pw.ws, List.set_cons_zero, List.set_cons_succ, List.length_cons, List.length_nil, List.map_cons, List.map_nil, List.cons_append, List.nil_append, List.replicate_succ, List.replicate_zero, Nat.reduceSub, Nat.reduceAdd, Nat.reduceLT, true_and, and_true, if_true, Bool.false_eq_true, if_false, true_implies, false_implies, forall_const, decide_eq_true_eq, decide_eq_false_iff_not, Bool.not_eq_true', Bool.not_eq_false', reduceCtorEq, w_ixR cf c00, w_ixT ar_0]
              exact ⟨fun c => absurd (by rw [ne]) c, fun _ => True.intro⟩
            rintro _ _ ⟨rfl, rfl⟩
            simp only [Pe.Pw.ws, List.set_cons_zero, List.set_cons_succ, List.length_cons, List.length_nil, List.map_cons, List.map_nil, List.cons_append, List.nil_append, List.replicate_succ, List.replicate_zero, Nat.reduceSub, Nat.reduceAdd, Nat.reduceLT, true_and, and_true, if_true, Bool.false_eq_true, if_false, true_implies, false_implies, forall_const, decide_eq_true_eq, decide_eq_false_iff_not, Bool.not_eq_true', Bool.not_eq_false', reduceCtorEq, E, w_ixR cf c00, w_ixT ar_1]
            exact ⟨gs ++ [Cell.lst (fl.map .d)], r.b, _, _, _, by rw [← hG]; simp, wv2, rfl⟩
          · rw [decide_eq_false ne, Bool.false_and] at wv2
            rw [← wv2]
            refine w_cut (fun _ _ => False) ?_ (fun _ _ z => z.elim)
            simp only [Pe.Pw.ws, List.set_cons_zero, List.set_cons_succ, List.length_cons, List.length_nil, List.map_cons, List.map_nil, List.cons_append, List.nil_append, List.replicate_succ, List.replicate_zero, Nat.reduceSub, Nat.reduceAdd, Nat.reduceLT, true_and, and_true, if_true, Bool.false_eq_true, if_false, true_implies, false_implies, forall_const, decide_eq_true_eq, decide_eq_false_iff_not, Bool.not_eq_true', Bool.not_eq_false', reduceCtorEq, E, w_lenR cf]
            refine ⟨fun c => absurd c l0, fun _ => ?_⟩
            simp only [Pe.Pw.ws, List.set_cons_zero, List.set_cons_succ, List.length_cons, List.length_nil, List.map_cons, List.map_nil, List.cons_append, List.nil_append, List.replicate_succ, List.replicate_zero, Nat.reduceSub, Nat.reduceAdd, Nat.reduceLT, true_and, and_true, if_true, Bool.false_eq_true, if_false, true_implies, false_implies, forall_const, decide_eq_true_eq, decide_eq_false_iff_not, Bool.not_eq_true', Bool.not_eq_false', reduceCtorEq, w_ixR cf c00, w_ixT ar_0]
            rw [List.take_append_of_le_length hhG, tkG]
            exact ⟨fun _ => rfl, fun c => absurd (fun e => ne (by omega)) c⟩
      · obtain ⟨gs, now, e6, e7, e8, rfl, wv, rfl⟩ := q
        rw [List.length_map, List.drop_length] at wv
        exact ⟨gs, now, _, _, _, rfl, wv, rfl⟩
    rintro _ _ ⟨gs, now, e6, e7, e8, rfl, wv, rfl⟩
    simp only [Pe.Pw.ws, List.set_cons_zero, List.set_cons_succ, List.length_cons, List.length_nil, List.map_cons, List.map_nil, List.cons_append, List.nil_append, List.replicate_succ, List.replicate_zero, Nat.reduceSub, Nat.reduceAdd, Nat.reduceLT, true_and, and_true, if_true, Bool.false_eq_true, if_false, true_implies, false_implies, forall_const, decide_eq_true_eq, decide_eq_false_iff_not, Bool.not_eq_true', Bool.not_eq_false', reduceCtorEq, E]
    rw [List.take_left, ← wv, show decide ((now : Int) = (y : Int)) = decide (now = y) from decide_eq_decide.mpr (by omega)]
    exact ⟨rfl, rfl⟩
  · have ty : tyIs h (.d p) .tuple = false := by
      cases p with
      | tup ps => exact absurd ⟨ps, rfl⟩ tp
      | _ => rfl
    have w : wayD rs x y p = false := by
      cases p with
      | tup ps => exact absurd ⟨ps, rfl⟩ tp
      | _ => rfl
    rw [w]
    refine w_cut (fun _ _ => False) ?_ (fun _ _ z => z.elim)
    simp only [Pe.Pw.ws, List.set_cons_zero, List.set_cons_succ, List.length_cons, List.length_nil, List.map_cons, List.map_nil, List.cons_append, List.nil_append, List.replicate_succ, List.replicate_zero, Nat.reduceSub, Nat.reduceAdd, Nat.reduceLT, true_and, and_true, if_true, Bool.false_eq_true, if_false, true_implies, false_implies, forall_const, decide_eq_true_eq, decide_eq_false_iff_not, Bool.not_eq_true', Bool.not_eq_false', reduceCtorEq, List.any_cons, List.any_nil, Bool.or_false, ty, Bool.not_false, take_self]
def lringArcsB (la : Nat) : List S := [.ife (.orr (.nt (.blt (.isi [.tuple]) [(.var 1)])) (.cmp .lt (.blt .len [(.var 1)]) (.cst (.int 2)))) [.ret (.cst .non)] [], .asg (.nm 2) (.call la [(.var 0)]), .asg (.nm 3) (.lst []), .fr (.nm 4) (.seq (.var 1)) [.asg (.nm 5) (.comp [6] (.nm 6) (.seq (.var 2)) true (.cmp .eq (.idx (.var 6) (.cst (.int 3))) (.var 4)) (.var 6)), .ife (.orr (.cmp .eq (.blt .len [(.var 5)]) (.cst (.int 0))) (.an (.cmp .gt (.blt .len [(.var 3)]) (.cst (.int 0))) (.cmp .ne (.idx (.idx (.var 3) (.bin .sub (.blt .len [(.var 3)]) (.cst (.int 1)))) (.cst (.int 1))) (.idx (.idx (.var 5) (.cst (.int 0))) (.cst (.int 0)))))) [.ret (.cst .non)] [], .ex (.mth .append (.var 3) [(.idx (.var 5) (.cst (.int 0)))])], .ife (.orr (.cmp .ne (.idx (.idx (.var 3) (.bin .sub (.blt .len [(.var 3)]) (.cst (.int 1)))) (.cst (.int 1))) (.idx (.idx (.var 3) (.cst (.int 0))) (.cst (.int 0)))) (.cmp .ne (.lset (.comp [6] (.nm 6) (.seq (.var 3)) false (.cst (.bl true)) (.idx (.var 6) (.cst (.int 0))))) (.blt .len [(.var 3)]))) [.ret (.cst .non)] [], .ret (.var 3)]
def rgPV : Option (List Ar) → PV
  | some l => .tl ((l.map Ar.D).map .d)
  | none => .d .non
theorem lringArcs_e {la : Nat} (is : Is FT f 2 7 (lringArcsB la)) (ila : Is FT la 1 7 larcsB) (nb : nbD p = true) (sm : ∀ ps, p = .tup ps → ps.length < 900 ∧ ∀ q ∈ ps, Sm 9 q) (hl : rs.length ≤ 1000) : cal FT (d + 2) f [.d (rsD rs), .d p] h = some (rgPV (rgD rs p), h) := by
  refine eq_of_wp (is.call rfl ?_)
  unfold lringArcsB
  have hz : sizeLine = 2 ^ 24 := rfl
  by_cases tp : ∃ ps, p = .tup ps
  · obtain ⟨ps, rfl⟩ := tp
    have nbs := nbs_iff.mp (show nbsD ps = true by rw [nbD] at nb; exact nb)
    obtain ⟨pl, sms⟩ := sm ps rfl
    have rg : rgD rs (.tup ps) = if ps.length < 2 then none else rgV rs ps := rfl
    rw [rg]
    let E : Option PV → Option PV → Option PV → Option PV → Option PV → Env := fun e2 e3 e4 e5 e6 => [some (.d (rsD rs)), some (.d (.tup ps)), e2, e3, e4, e5, e6]
    by_cases l2 : ps.length < 2
    · rw [if_pos l2]
      refine w_cut (fun _ _ => False) ?_ (fun _ _ z => z.elim)
      simp only [Pe.Pw.ws, List.set_cons_zero, List.set_cons_succ, List.length_cons, List.length_nil, List.map_cons, List.map_nil, List.cons_append, List.nil_append, List.replicate_succ, List.replicate_zero, Nat.reduceSub, Nat.reduceAdd, Nat.reduceLT, true_and, and_true, if_true, Bool.false_eq_true, if_false, true_implies, false_implies, forall_const, decide_eq_true_eq, decide_eq_false_iff_not, Bool.not_eq_true', Bool.not_eq_false', reduceCtorEq, tyIs, List.any_cons, List.any_nil, Bool.or_false, Bool.not_true, take_self]
      exact ⟨fun _ => rfl, fun c => absurd (by omega) c⟩
    rw [if_neg l2]
    refine w_cut (fun e hh => hh = h ∧ e = E none none none none none) ?_ ?_
    · simp only [Pe.Pw.ws, List.set_cons_zero, List.set_cons_succ, List.length_cons, List.length_nil, List.map_cons, List.map_nil, List.cons_append, List.nil_append, List.replicate_succ, List.replicate_zero, Nat.reduceSub, Nat.reduceAdd, Nat.reduceLT, true_and, and_true, if_true, Bool.false_eq_true, if_false, true_implies, false_implies, forall_const, decide_eq_true_eq, decide_eq_false_iff_not, Bool.not_eq_true', Bool.not_eq_false', reduceCtorEq, tyIs, List.any_cons, List.any_nil, Bool.or_false, Bool.not_true]
      exact ⟨fun c => absurd c (by omega), fun _ => rfl⟩
    rintro _ h ⟨rfl, rfl⟩
    refine w_cut (fun e hh => hh = h ++ [Cell.lst (((allA 0 rs).map Ar.D).map .d)] ∧ e = E (some (.ref h.length)) none none none none) ?_ ?_
    · simp only [Pe.Pw.ws, List.set_cons_zero, List.set_cons_succ, List.length_cons, List.length_nil, List.map_cons, List.map_nil, List.cons_append, List.nil_append, List.replicate_succ, List.replicate_zero, Nat.reduceSub, Nat.reduceAdd, Nat.reduceLT, true_and, and_true, if_true, Bool.false_eq_true, if_false, true_implies, false_implies, forall_const, decide_eq_true_eq, decide_eq_false_iff_not, Bool.not_eq_true', Bool.not_eq_false', reduceCtorEq, E, w_iff (larcs_e (h := h) (d := d) ila hl), conv_tld]
    rintro _ _ ⟨rfl, rfl⟩
    have al := allA_len rs 0
    refine w_cut (fun e hh => hh = h ++ [Cell.lst (((allA 0 rs).map Ar.D).map .d), Cell.lst ((([] : List Ar).map Ar.D).map .d)] ∧ e = E (some (.ref h.length)) (some (.ref (h.length + 1))) none none none) ?_ ?_
    · simp only [Pe.Pw.ws, List.set_cons_zero, List.set_cons_succ, List.length_cons, List.length_nil, List.map_cons, List.map_nil, List.cons_append, List.nil_append, List.replicate_succ, List.replicate_zero, Nat.reduceSub, Nat.reduceAdd, Nat.reduceLT, true_and, and_true, if_true, Bool.false_eq_true, if_false, true_implies, false_implies, forall_const, decide_eq_true_eq, decide_eq_false_iff_not, Bool.not_eq_true', Bool.not_eq_false', reduceCtorEq, E, List.length_append]
      refine ⟨sz, ?_⟩
      rw [List.append_assoc]
      rfl
    rintro _ _ ⟨rfl, rfl⟩
    let P : Nat → Env → Hs → Prop := fun i e hh => ∃ (l : List Ar) (gs : Hs) (e4 e5 e6 : Option PV), arcsV rs (ps.take i) = some l ∧ hangB l = true ∧ (∀ r ∈ l, r ∈ allA 0 rs) ∧ hh = h ++ Cell.lst (((allA 0 rs).map Ar.D).map .d) :: Cell.lst ((l.map Ar.D).map .d) :: gs ∧ e = E (some (.ref h.length)) (some (.ref (h.length + 1))) e4 e5 e6
    refine w_cut (P ps.length) ?_ ?_
    · simp only [Pe.Pw.ws, List.set_cons_zero, List.set_cons_succ, List.length_cons, List.length_nil, List.map_cons, List.map_nil, List.cons_append, List.nil_append, List.replicate_succ, List.replicate_zero, Nat.reduceSub, Nat.reduceAdd, Nat.reduceLT, true_and, and_true, if_true, Bool.false_eq_true, if_false, true_implies, false_implies, forall_const, decide_eq_true_eq, decide_eq_false_iff_not, Bool.not_eq_true', Bool.not_eq_false', reduceCtorEq, E]
      refine w_for (ps.map .d) P ⟨[], [], _, _, _, rfl, rfl, fun _ z => absurd z List.not_mem_nil, rfl, rfl⟩ (fun _ _ _ _ _ => its_imm) (fun i e hh v ev q => ?_) fun e hh q => by rw [List.length_map] at q; exact q
      obtain ⟨l, gs, e4, e5, e6, av, hb, lm, rfl, rfl⟩ := q
      have hi := (List.getElem?_eq_some_iff.mp ev).1
      rw [List.length_map] at hi
      rw [List.getElem?_map, List.getElem?_eq_getElem hi] at ev
      cases ev
      have eq : ps[i]? = some ps[i] := List.getElem?_eq_getElem hi
      have hq := List.getElem_mem hi
      have tk1 : ps.take (i + 1) = ps.take i ++ [ps[i]] := by rw [List.take_add_one, eq]; rfl
      generalize ps[i] = q at *
      have nq := nbs q hq
      have sq := sms q hq
      have ll := arcsV_len av
      rw [List.length_take] at ll
      refine w_nm.mpr ⟨(by decide : 4 < 7), ?_⟩
      rw [conv_d]
      have cg : (h ++ Cell.lst (((allA 0 rs).map Ar.D).map .d) :: Cell.lst ((l.map Ar.D).map .d) :: gs)[h.length]? = some (.lst (((allA 0 rs).map Ar.D).map .d)) := gA0
      refine w_cut (fun e hh => hh = (h ++ Cell.lst (((allA 0 rs).map Ar.D).map .d) :: Cell.lst ((l.map Ar.D).map .d) :: gs) ++ [Cell.lst ((fdD rs q).map .d)] ∧ ∃ e6, e = E (some (.ref h.length)) (some (.ref (h.length + 1))) (some (.d q)) (some (.ref (h ++ Cell.lst (((allA 0 rs).map Ar.D).map .d) :: Cell.lst ((l.map Ar.D).map .d) :: gs).length)) e6) ?_ ?_
      · simp only [Pe.Pw.ws, List.set_cons_zero, List.set_cons_succ, List.length_cons, List.length_nil, List.map_cons, List.map_nil, List.cons_append, List.nil_append, List.replicate_succ, List.replicate_zero, Nat.reduceSub, Nat.reduceAdd, Nat.reduceLT, true_and, and_true, if_true, Bool.false_eq_true, if_false, true_implies, false_implies, forall_const, decide_eq_true_eq, decide_eq_false_iff_not, Bool.not_eq_true', Bool.not_eq_false', reduceCtorEq, E]
        refine w_clf (h := h ++ Cell.lst (((allA 0 rs).map Ar.D).map .d) :: Cell.lst ((l.map Ar.D).map .d) :: gs) (allA 0 rs) (fun r => .d r.D) (fun r => if PyData.eqv r.s.py q.py then some (.d r.D) else none) (its_cellM cg) (by omega) (fun r hr => ?_) ?_
        · unfold Ar.D
          simp only [Pe.Pw.ws, List.set_cons_zero, List.set_cons_succ, List.length_cons, List.length_nil, List.map_cons, List.map_nil, List.cons_append, List.nil_append, List.replicate_succ, List.replicate_zero, Nat.reduceSub, Nat.reduceAdd, Nat.reduceLT, true_and, and_true, if_true, Bool.false_eq_true, if_false, true_implies, false_implies, forall_const, decide_eq_true_eq, decide_eq_false_iff_not, Bool.not_eq_true', Bool.not_eq_false', reduceCtorEq, w_ixT ar_3, w_eqD (k := 9) (by decide) (s_sm (k := 8) hr) sq]
          cases PyData.eqv r.s.py q.py <;> simp
        · rw [fm_filter, show ((allA 0 rs).filter fun r => PyData.eqv r.s.py q.py).map (fun r => PV.d r.D) = (fdD rs q).map .d by unfold fdD; rw [List.map_map]; rfl, conv_tld]
          exact ⟨rfl, _, rfl⟩
      rintro _ _ ⟨rfl, e6, rfl⟩
      have ct : ((h ++ Cell.lst (((allA 0 rs).map Ar.D).map .d) :: Cell.lst ((l.map Ar.D).map .d) :: gs) ++ [Cell.lst ((fdD rs q).map .d)])[h.length + 1]? = some (.lst ((l.map Ar.D).map .d)) := by rw [List.append_assoc]; exact gA (k := 1)
      have st : ∀ c, ((h ++ Cell.lst (((allA 0 rs).map Ar.D).map .d) :: Cell.lst ((l.map Ar.D).map .d) :: gs) ++ [Cell.lst ((fdD rs q).map .d)]).set (h.length + 1) c = h ++ Cell.lst (((allA 0 rs).map Ar.D).map .d) :: c :: (gs ++ [Cell.lst ((fdD rs q).map .d)]) := fun c => by rw [List.append_assoc, sA]; rfl
      have tkG : ((h ++ Cell.lst (((allA 0 rs).map Ar.D).map .d) :: Cell.lst ((l.map Ar.D).map .d) :: gs) ++ [Cell.lst ((fdD rs q).map .d)]).take h.length = h := by rw [List.append_assoc, List.take_left]
      have cf : ((h ++ Cell.lst (((allA 0 rs).map Ar.D).map .d) :: Cell.lst ((l.map Ar.D).map .d) :: gs) ++ [Cell.lst ((fdD rs q).map .d)])[(h ++ Cell.lst (((allA 0 rs).map Ar.D).map .d) :: Cell.lst ((l.map Ar.D).map .d) :: gs).length]? = some (.lst ((fdD rs q).map .d)) := gA0
      generalize hG : (h ++ Cell.lst (((allA 0 rs).map Ar.D).map .d) :: Cell.lst ((l.map Ar.D).map .d) :: gs) = G at *
      cases f : fnd rs q with
      | none =>
        rw [rgV_none_find eq f]
        have l0 : (((fdD rs q).map PV.d).length : Int) = 0 := by rw [fdD_none nq f]; rfl
        refine w_cut (fun _ _ => False) ?_ (fun _ _ z => z.elim)
        simp only [Pe.Pw.ws, List.set_cons_zero, List.set_cons_succ, List.length_cons, List.length_nil, List.map_cons, List.map_nil, List.cons_append, List.nil_append, List.replicate_succ, List.replicate_zero, Nat.reduceSub, Nat.reduceAdd, Nat.reduceLT, true_and, and_true, if_true, Bool.false_eq_true, if_false, true_implies, false_implies, forall_const, decide_eq_true_eq, decide_eq_false_iff_not, Bool.not_eq_true', Bool.not_eq_false', reduceCtorEq, E, w_lenR cf]
        rw [tkG]
        exact ⟨fun _ => ⟨rfl, rfl⟩, fun c => absurd l0 c⟩
      | some r =>
        obtain ⟨t, et⟩ := fdD_some nq f
        have av2 : arcsV rs (ps.take (i + 1)) = some (l ++ [r]) := by
          rw [tk1, arcsV_app, av]
          unfold arcsV
          rw [f]
          rfl
        have c00 : L2.atI ((fdD rs q).map PV.d) 0 = some (.d (.tup [.int (r.a : Nat), .int (r.b : Nat), .int r.w, r.s])) := by rw [et]; show L2.atI _ ((0 : Nat) : Int) = _; rw [atI_nat]; rfl
        have l0 : ¬ (((fdD rs q).map PV.d).length : Int) = 0 := by rw [et, List.length_map, List.length_cons]; omega
        generalize fdD rs q = fl at *
        have good : hangB (l ++ [r]) = true → P (i + 1) (E (some (.ref h.length)) (some (.ref (h.length + 1))) (some (.d q)) (some (.ref G.length)) e6) (h ++ Cell.lst (((allA 0 rs).map Ar.D).map .d) :: Cell.lst ((l.map Ar.D).map .d ++ [.d (.tup [.int (r.a : Nat), .int (r.b : Nat), .int r.w, r.s])]) :: (gs ++ [Cell.lst (fl.map .d)])) := fun hb2 => by
          have mem : ∀ y ∈ l ++ [r], y ∈ allA 0 rs := fun y hy => by
            rcases List.mem_append.mp hy with hy | hy
            · exact lm y hy
            · rw [List.mem_singleton.mp hy]; exact (fnd_some nq f).1
          exact ⟨l ++ [r], gs ++ [Cell.lst (fl.map .d)], some (.d q), some (.ref G.length), e6, av2, hb2, mem, by rw [List.map_append, List.map_append]; rfl, rfl⟩
        have bad : hangB (l ++ [r]) = false → rgV rs ps = none := fun hb2 => by
          cases av3 : arcsV rs ps with
          | none => unfold rgV; rw [av3]
          | some l3 =>
            refine rgV_hang av3 ?_
            rw [← List.take_append_drop (i + 1) ps, arcsV_app, av2] at av3
            cases av4 : arcsV rs (ps.drop (i + 1)) with
            | none => rw [av4] at av3; cases av3
            | some t =>
              rw [av4] at av3
              cases av3
              cases q2 : hangB (l ++ [r] ++ t) with
              | false => rfl
              | true => rw [hang_pre q2] at hb2; cases hb2
        have lz : ((l.map Ar.D).map PV.d).length < sizeLine := by rw [List.length_map, List.length_map]; omega
        rcases snoc_cases l with rfl | ⟨l0', x, rfl⟩
        · refine w_cut (fun e hh => hh = G ++ [Cell.lst (fl.map .d)] ∧ e = E (some (.ref h.length)) (some (.ref (h.length + 1))) (some (.d q)) (some (.ref G.length)) e6) ?_ ?_
          · simp only [Pe.Pw.ws, List.set_cons_zero, List.set_cons_succ, List.length_cons, List.length_nil, List.map_cons, List.map_nil, List.cons_append, List.nil_append, List.replicate_succ, List.replicate_zero, Nat.reduceSub, Nat.reduceAdd, Nat.reduceLT, true_and, and_true, if_true, Bool.false_eq_true, if_false, true_implies, false_implies, forall_const, decide_eq_true_eq, decide_eq_false_iff_not, Bool.not_eq_true', Bool.not_eq_false', reduceCtorEq, E, w_lenR cf, w_lenR ct]
            exact ⟨fun c => absurd c l0, fun _ => ⟨fun c => absurd c (by decide), fun _ => True.intro⟩⟩
          rintro _ _ ⟨rfl, rfl⟩
          simp only [Pe.Pw.ws, List.set_cons_zero, List.set_cons_succ, List.length_cons, List.length_nil, List.map_cons, List.map_nil, List.cons_append, List.nil_append, List.replicate_succ, List.replicate_zero, Nat.reduceSub, Nat.reduceAdd, Nat.reduceLT, true_and, and_true, if_true, Bool.false_eq_true, if_false, true_implies, false_implies, forall_const, decide_eq_true_eq, decide_eq_false_iff_not, Bool.not_eq_true', Bool.not_eq_false', reduceCtorEq, E, w_ixR cf c00]
          rw [w_app ct lz, st]
          exact good rfl
        · have hs := hang_snoc (l := l0') (q := x) (r := r)
          rw [hb, Bool.true_and] at hs
          have ln : (((l0' ++ [x]).map Ar.D).map PV.d).length = l0'.length + 1 := by simp
          have lx : L2.atI (((l0' ++ [x]).map Ar.D).map PV.d) ((l0'.length + 1 : Nat) - 1 : Int) = some (.d (.tup [.int (x.a : Nat), .int (x.b : Nat), .int x.w, x.s])) := by
            rw [show ((l0'.length + 1 : Nat) - 1 : Int) = (l0'.length : Nat) by omega, atI_nat]
            simp [Ar.D]
          have lp : (0 : Int) < ((l0'.length + 1 : Nat) : Int) := by omega
          by_cases ne : r.a = x.b
          · refine w_cut (fun e hh => hh = G ++ [Cell.lst (fl.map .d)] ∧ e = E (some (.ref h.length)) (some (.ref (h.length + 1))) (some (.d q)) (some (.ref G.length)) e6) ?_ ?_
            · simp only [Pe.Pw.ws, List.set_cons_zero, List.set_cons_succ, List.length_cons, List.length_nil, List.map_cons, List.map_nil, List.cons_append, List.nil_append, List.replicate_succ, List.replicate_zero, Nat.reduceSub, Nat.reduceAdd, Nat.reduceLT, true_and, and_true, if_true, Bool.false_eq_true, if_false, true_implies, false_implies, forall_const, decide_eq_true_eq, decide_eq_false_iff_not, Bool.not_eq_true', Bool.not_eq_false', reduceCtorEq, E, w_lenR cf, w_lenR ct, ln]
              refine ⟨fun c => absurd c l0, fun _ => ⟨fun _ => ?_, fun c => absurd lp c⟩⟩
              simp only [Pe.Pw.ws, List.set_cons_zero, List.set_cons_succ, List.length_cons, List.length_nil, List.map_cons, List.map_nil, List.cons_append, List.nil_append, List.replicate_succ, List.replicate_zero, Nat.reduceSub, Nat.reduceAdd, Nat.reduceLT, true_and, and_true, if_true, Bool.false_eq_true, if_false, true_implies, false_implies, forall_const, decide_eq_true_eq, decide_eq_false_iff_not, Bool.not_eq_true', Bool.not_eq_false', reduceCtorEq, w_ixR ct lx, w_ixT ar_1, w_ixR cf c00, w_ixT ar_0]
              exact ⟨fun c => absurd (by rw [ne]) c, fun _ => True.intro⟩
            rintro _ _ ⟨rfl, rfl⟩
            simp only [Pe.Pw.ws, List.set_cons_zero, List.set_cons_succ, List.length_cons, List.length_nil, List.map_cons, List.map_nil, List.cons_append, List.nil_append, List.replicate_succ, List.replicate_zero, Nat.reduceSub, Nat.reduceAdd, Nat.reduceLT, true_and, and_true, if_true, Bool.false_eq_true, if_false, true_implies, false_implies, forall_const, decide_eq_true_eq, decide_eq_false_iff_not, Bool.not_eq_true', Bool.not_eq_false', reduceCtorEq, E, w_ixR cf c00]
            rw [w_app ct lz, st]
            exact good (by rw [hs]; exact decide_eq_true ne)
          · rw [bad (by rw [hs]; exact decide_eq_false ne)]
            refine w_cut (fun _ _ => False) ?_ (fun _ _ z => z.elim)
            simp only [Pe.Pw.ws, List.set_cons_zero, List.set_cons_succ, List.length_cons, List.length_nil, List.map_cons, List.map_nil, List.cons_append, List.nil_append, List.replicate_succ, List.replicate_zero, Nat.reduceSub, Nat.reduceAdd, Nat.reduceLT, true_and, and_true, if_true, Bool.false_eq_true, if_false, true_implies, false_implies, forall_const, decide_eq_true_eq, decide_eq_false_iff_not, Bool.not_eq_true', Bool.not_eq_false', reduceCtorEq, E, w_lenR cf, w_lenR ct, ln]
            refine ⟨fun c => absurd c l0, fun _ => ⟨fun _ => ?_, fun c => absurd lp c⟩⟩
            simp only [Pe.Pw.ws, List.set_cons_zero, List.set_cons_succ, List.length_cons, List.length_nil, List.map_cons, List.map_nil, List.cons_append, List.nil_append, List.replicate_succ, List.replicate_zero, Nat.reduceSub, Nat.reduceAdd, Nat.reduceLT, true_and, and_true, if_true, Bool.false_eq_true, if_false, true_implies, false_implies, forall_const, decide_eq_true_eq, decide_eq_false_iff_not, Bool.not_eq_true', Bool.not_eq_false', reduceCtorEq, w_ixR ct lx, w_ixT ar_1, w_ixR cf c00, w_ixT ar_0]
            rw [tkG]
            exact ⟨fun _ => ⟨rfl, rfl⟩, fun c => absurd (fun e => ne (by omega)) c⟩
    rintro _ _ ⟨l, gs, e4, e5, e6, av, hb, lm, rfl, rfl⟩
    rw [List.take_length] at av
    have ll := arcsV_len av
    obtain ⟨r0, t, rfl⟩ : ∃ r0 t, l = r0 :: t := by
      cases l with
      | nil => rw [List.length_nil] at ll; omega
      | cons r0 t => exact ⟨r0, t, rfl⟩
    obtain ⟨l0', x, ex⟩ : ∃ l0' x, r0 :: t = l0' ++ [x] := by
      rcases snoc_cases (r0 :: t) with e | ⟨l0', x, e⟩
      · cases e
      · exact ⟨l0', x, e⟩
    have xe : endO r0.b t = x.b := by
      cases l0' with
      | nil => cases ex; rfl
      | cons y l1 =>
        rw [List.cons_append] at ex
        obtain ⟨rfl, rfl⟩ := List.cons.inj ex
        exact endO_last
    have hb : consB r0.b t = true := hb
    have rv : rgV rs ps = if decide (endO r0.b t = r0.a) && decide ((met ((r0 :: t).map fun q => (q.a : Int))).length = t.length + 1) then some (r0 :: t) else none := by
      unfold rgV
      rw [av]
      dsimp only
      rw [hb, Bool.true_and]
    rw [rv, xe]
    have ln : (((r0 :: t).map Ar.D).map PV.d).length = t.length + 1 := by simp
    have lx : L2.atI (((r0 :: t).map Ar.D).map PV.d) ((t.length + 1 : Nat) - 1 : Int) = some (.d (.tup [.int (x.a : Nat), .int (x.b : Nat), .int x.w, x.s])) := by
      have tl : t.length = l0'.length := by have := congrArg List.length ex; simp at this; exact this
      rw [show ((t.length + 1 : Nat) - 1 : Int) = (t.length : Nat) by omega, atI_nat, ex, tl]
      simp [Ar.D]
    have l00 : L2.atI (((r0 :: t).map Ar.D).map PV.d) 0 = some (.d (.tup [.int (r0.a : Nat), .int (r0.b : Nat), .int r0.w, r0.s])) := by show L2.atI _ ((0 : Nat) : Int) = _; rw [atI_nat]; rfl
    have ct : (h ++ Cell.lst (((allA 0 rs).map Ar.D).map .d) :: Cell.lst (((r0 :: t).map Ar.D).map .d) :: gs)[h.length + 1]? = some (.lst (((r0 :: t).map Ar.D).map .d)) := gA (k := 1)
    have tkG : (h ++ Cell.lst (((allA 0 rs).map Ar.D).map .d) :: Cell.lst (((r0 :: t).map Ar.D).map .d) :: gs).take h.length = h := List.take_left
    rw [List.length_cons] at ll
    generalize hLL : r0 :: t = LL at *
    have LLl : LL.length = t.length + 1 := by rw [← hLL, List.length_cons]
    generalize (h ++ Cell.lst (((allA 0 rs).map Ar.D).map .d) :: Cell.lst ((LL.map Ar.D).map .d) :: gs) = G at *
    have dd : decide (((met (LL.map fun q => (q.a : Int))).length : Int) ≠ ((t.length + 1 : Nat) : Int)) = !decide ((met (LL.map fun q => (q.a : Int))).length = t.length + 1) := by
      rw [← decide_not]
      exact decide_eq_decide.mpr (by omega)
    by_cases ne : x.b = r0.a
    · rw [decide_eq_true ne, Bool.true_and]
      cases dm : decide ((met (LL.map fun q => (q.a : Int))).length = t.length + 1) with
      | true =>
        rw [dm] at dd
        refine w_cut (fun e hh => hh = G ∧ ∃ e6, e = E (some (.ref h.length)) (some (.ref (h.length + 1))) e4 e5 e6) ?_ ?_
        · simp only [Pe.Pw.ws, List.set_cons_zero, List.set_cons_succ, List.length_cons, List.length_nil, List.map_cons, List.map_nil, List.cons_append, List.nil_append, List.replicate_succ, List.replicate_zero, Nat.reduceSub, Nat.reduceAdd, Nat.reduceLT, true_and, and_true, if_true, Bool.false_eq_true, if_false, true_implies, false_implies, forall_const, decide_eq_true_eq, decide_eq_false_iff_not, Bool.not_eq_true', Bool.not_eq_false', reduceCtorEq, E, w_lenR ct, ln, w_ixR ct lx, w_ixT ar_1, w_ixR ct l00, w_ixT ar_0, w_lset]
          refine ⟨fun c => absurd (by rw [ne]) c, fun _ => ?_⟩
          refine w_clx LL (fun r => .d r.D) (fun r => .d (.int (r.a : Nat))) (its_cellM ct) (by omega) (fun r hr => ?_) ?_
          · unfold Ar.D
            simp only [Pe.Pw.ws, List.set_cons_zero, List.set_cons_succ, List.length_cons, List.length_nil, List.map_cons, List.map_nil, List.cons_append, List.nil_append, List.replicate_succ, List.replicate_zero, Nat.reduceSub, Nat.reduceAdd, Nat.reduceLT, true_and, and_true, if_true, Bool.false_eq_true, if_false, true_implies, false_implies, forall_const, decide_eq_true_eq, decide_eq_false_iff_not, Bool.not_eq_true', Bool.not_eq_false', reduceCtorEq, w_ixT ar_0]
          · rw [show (LL.map fun r => PV.d (.int (r.a : Nat))) = ((LL.map fun q => (q.a : Int)).map D.int).map .d by rw [List.map_map, List.map_map]; rfl, w_lsetL, w_difS (by rw [List.length_map]; omega)]
            simp only [Pe.Pw.ws, List.set_cons_zero, List.set_cons_succ, List.length_cons, List.length_nil, List.map_cons, List.map_nil, List.cons_append, List.nil_append, List.replicate_succ, List.replicate_zero, Nat.reduceSub, Nat.reduceAdd, Nat.reduceLT, true_and, and_true, if_true, Bool.false_eq_true, if_false, true_implies, false_implies, forall_const, decide_eq_true_eq, decide_eq_false_iff_not, Bool.not_eq_true', Bool.not_eq_false', reduceCtorEq, w_lenR ct, ln, dd, Bool.not_true]
            exact ⟨_, rfl⟩
        rintro _ _ ⟨rfl, e6, rfl⟩
        simp only [Pe.Pw.ws, List.set_cons_zero, List.set_cons_succ, List.length_cons, List.length_nil, List.map_cons, List.map_nil, List.cons_append, List.nil_append, List.replicate_succ, List.replicate_zero, Nat.reduceSub, Nat.reduceAdd, Nat.reduceLT, true_and, and_true, if_true, Bool.false_eq_true, if_false, true_implies, false_implies, forall_const, decide_eq_true_eq, decide_eq_false_iff_not, Bool.not_eq_true', Bool.not_eq_false', reduceCtorEq, E]
        rw [lv_own (by omega) ct, tkG]
        exact ⟨rfl, rfl⟩
      | false =>
        rw [dm] at dd
        refine w_cut (fun _ _ => False) ?_ (fun _ _ z => z.elim)
        simp only [Pe.Pw.ws, List.set_cons_zero, List.set_cons_succ, List.length_cons, List.length_nil, List.map_cons, List.map_nil, List.cons_append, List.nil_append, List.replicate_succ, List.replicate_zero, Nat.reduceSub, Nat.reduceAdd, Nat.reduceLT, true_and, and_true, if_true, Bool.false_eq_true, if_false, true_implies, false_implies, forall_const, decide_eq_true_eq, decide_eq_false_iff_not, Bool.not_eq_true', Bool.not_eq_false', reduceCtorEq, E, w_lenR ct, ln, w_ixR ct lx, w_ixT ar_1, w_ixR ct l00, w_ixT ar_0, w_lset]
        refine ⟨fun c => absurd (by rw [ne]) c, fun _ => ?_⟩
        refine w_clx LL (fun r => .d r.D) (fun r => .d (.int (r.a : Nat))) (its_cellM ct) (by omega) (fun r hr => ?_) ?_
        · unfold Ar.D
          simp only [Pe.Pw.ws, List.set_cons_zero, List.set_cons_succ, List.length_cons, List.length_nil, List.map_cons, List.map_nil, List.cons_append, List.nil_append, List.replicate_succ, List.replicate_zero, Nat.reduceSub, Nat.reduceAdd, Nat.reduceLT, true_and, and_true, if_true, Bool.false_eq_true, if_false, true_implies, false_implies, forall_const, decide_eq_true_eq, decide_eq_false_iff_not, Bool.not_eq_true', Bool.not_eq_false', reduceCtorEq, w_ixT ar_0]
        · rw [show (LL.map fun r => PV.d (.int (r.a : Nat))) = ((LL.map fun q => (q.a : Int)).map D.int).map .d by rw [List.map_map, List.map_map]; rfl, w_lsetL, w_difS (by rw [List.length_map]; omega)]
          simp only [Pe.Pw.ws, List.set_cons_zero, List.set_cons_succ, List.length_cons, List.length_nil, List.map_cons, List.map_nil, List.cons_append, List.nil_append, List.replicate_succ, List.replicate_zero, Nat.reduceSub, Nat.reduceAdd, Nat.reduceLT, true_and, and_true, if_true, Bool.false_eq_true, if_false, true_implies, false_implies, forall_const, decide_eq_true_eq, decide_eq_false_iff_not, Bool.not_eq_true', Bool.not_eq_false', reduceCtorEq, w_lenR ct, ln, dd, Bool.not_false, tkG]
          exact rfl
    · rw [decide_eq_false ne, Bool.false_and]
      refine w_cut (fun _ _ => False) ?_ (fun _ _ z => z.elim)
      simp only [Pe.Pw.ws, List.set_cons_zero, List.set_cons_succ, List.length_cons, List.length_nil, List.map_cons, List.map_nil, List.cons_append, List.nil_append, List.replicate_succ, List.replicate_zero, Nat.reduceSub, Nat.reduceAdd, Nat.reduceLT, true_and, and_true, if_true, Bool.false_eq_true, if_false, true_implies, false_implies, forall_const, decide_eq_true_eq, decide_eq_false_iff_not, Bool.not_eq_true', Bool.not_eq_false', reduceCtorEq, E, w_lenR ct, ln, w_ixR ct lx, w_ixT ar_1, w_ixR ct l00, w_ixT ar_0, tkG]
      exact ⟨fun _ => rfl, fun c => absurd (fun e => ne (by omega)) c⟩
  · have ty : tyIs h (.d p) .tuple = false := by
      cases p with
      | tup ps => exact absurd ⟨ps, rfl⟩ tp
      | _ => rfl
    have w : rgD rs p = none := by
      cases p with
      | tup ps => exact absurd ⟨ps, rfl⟩ tp
      | _ => rfl
    rw [w]
    refine w_cut (fun _ _ => False) ?_ (fun _ _ z => z.elim)
    simp only [Pe.Pw.ws, List.set_cons_zero, List.set_cons_succ, List.length_cons, List.length_nil, List.map_cons, List.map_nil, List.cons_append, List.nil_append, List.replicate_succ, List.replicate_zero, Nat.reduceSub, Nat.reduceAdd, Nat.reduceLT, true_and, and_true, if_true, Bool.false_eq_true, if_false, true_implies, false_implies, forall_const, decide_eq_true_eq, decide_eq_false_iff_not, Bool.not_eq_true', Bool.not_eq_false', reduceCtorEq, List.any_cons, List.any_nil, Bool.or_false, ty, Bool.not_false, take_self]
    exact rfl
def lringWeightB (ra : Nat) : List S := [.asg (.nm 2) (.call ra [(.var 0), (.var 1)]), .ife (.cmp .isN (.var 2) (.cst .non)) [.ret (.cst .non)] [], .ret (.blt .sum [(.comp [3] (.nm 3) (.seq (.var 2)) false (.cst (.bl true)) (.idx (.var 3) (.cst (.int 2))))])]
def wgD (rs : List Rd) (p : D) : D := match rgD rs p with
  | some l => .int (l.map Ar.w).sum
  | none => .non
theorem rgD_len {l : List Ar} (e : rgD rs p = some l) (sm : ∀ ps, p = .tup ps → ps.length < 900) : l.length < 900 := by
  cases p with
  | tup ps =>
    have h := sm ps rfl
    have q2 : (if ps.length < 2 then none else rgV rs ps) = some l := e
    split at q2
    · cases q2
    · unfold rgV at q2
      split at q2
      · split at q2
        · rename_i e1 _
          cases q2
          rw [arcsV_len e1]
          exact h
        · cases q2
      · cases q2
  | _ => cases e
theorem lringWeight_e {ra la : Nat} (is : Is FT f 2 4 (lringWeightB ra)) (ira : Is FT ra 2 7 (lringArcsB la)) (ila : Is FT la 1 7 larcsB) (nb : nbD p = true) (sm : ∀ ps, p = .tup ps → ps.length < 900 ∧ ∀ q ∈ ps, Sm 9 q) (hl : rs.length ≤ 1000) : cal FT (d + 3) f [.d (rsD rs), .d p] h = some (.d (wgD rs p), h) := by
  refine eq_of_wp (is.call rfl ?_)
  unfold lringWeightB
  have hz : sizeLine = 2 ^ 24 := rfl
  have e1 := lringArcs_e (h := h) (d := d) (rs := rs) (p := p) ira ila nb sm hl
  cases q : rgD rs p with
  | none =>
    have : wgD rs p = .non := by unfold wgD; rw [q]
    rw [this]
    rw [q] at e1
    simp only [Pe.Pw.ws, List.set_cons_zero, List.set_cons_succ, List.length_cons, List.length_nil, List.map_cons, List.map_nil, List.cons_append, List.nil_append, List.replicate_succ, List.replicate_zero, Nat.reduceSub, Nat.reduceAdd, Nat.reduceLT, true_and, and_true, if_true, Bool.false_eq_true, if_false, true_implies, false_implies, forall_const, decide_eq_true_eq, decide_eq_false_iff_not, Bool.not_eq_true', Bool.not_eq_false', reduceCtorEq, w_iff e1, rgPV, take_self, isNon]
  | some l =>
    have : wgD rs p = .int (l.map Ar.w).sum := by unfold wgD; rw [q]
    rw [this]
    rw [q] at e1
    have ll := rgD_len q fun ps e => (sm ps e).1
    refine w_cut (fun e hh => hh = h ++ [Cell.lst ((l.map Ar.D).map .d)] ∧ e = [some (.d (rsD rs)), some (.d p), some (.ref h.length), none]) ?_ ?_
    · simp only [Pe.Pw.ws, List.set_cons_zero, List.set_cons_succ, List.length_cons, List.length_nil, List.map_cons, List.map_nil, List.cons_append, List.nil_append, List.replicate_succ, List.replicate_zero, Nat.reduceSub, Nat.reduceAdd, Nat.reduceLT, true_and, and_true, if_true, Bool.false_eq_true, if_false, true_implies, false_implies, forall_const, decide_eq_true_eq, decide_eq_false_iff_not, Bool.not_eq_true', Bool.not_eq_false', reduceCtorEq, w_iff e1, rgPV, conv_tld]
    rintro _ _ ⟨rfl, rfl⟩
    have ec : (h ++ [Cell.lst ((l.map Ar.D).map .d)])[h.length]? = some (.lst ((l.map Ar.D).map .d)) := gA0
    refine w_cut (fun e hh => hh = h ++ [Cell.lst ((l.map Ar.D).map .d)] ∧ e = [some (.d (rsD rs)), some (.d p), some (.ref h.length), none]) ?_ ?_
    · simp only [Pe.Pw.ws, List.set_cons_zero, List.set_cons_succ, List.length_cons, List.length_nil, List.map_cons, List.map_nil, List.cons_append, List.nil_append, List.replicate_succ, List.replicate_zero, Nat.reduceSub, Nat.reduceAdd, Nat.reduceLT, true_and, and_true, if_true, Bool.false_eq_true, if_false, true_implies, false_implies, forall_const, decide_eq_true_eq, decide_eq_false_iff_not, Bool.not_eq_true', Bool.not_eq_false', reduceCtorEq, w_isnR]
    rintro _ _ ⟨rfl, rfl⟩
    simp only [Pe.Pw.ws, List.set_cons_zero, List.set_cons_succ, List.length_cons, List.length_nil, List.map_cons, List.map_nil, List.cons_append, List.nil_append, List.replicate_succ, List.replicate_zero, Nat.reduceSub, Nat.reduceAdd, Nat.reduceLT, true_and, and_true, if_true, Bool.false_eq_true, if_false, true_implies, false_implies, forall_const, decide_eq_true_eq, decide_eq_false_iff_not, Bool.not_eq_true', Bool.not_eq_false', reduceCtorEq]
    refine w_clx l (fun r => .d r.D) (fun r => .d (.int r.w)) (its_cellM ec) (by omega) (fun r hr => ?_) ?_
    · unfold Ar.D
      simp only [Pe.Pw.ws, List.set_cons_zero, List.set_cons_succ, List.length_cons, List.length_nil, List.map_cons, List.map_nil, List.cons_append, List.nil_append, List.replicate_succ, List.replicate_zero, Nat.reduceSub, Nat.reduceAdd, Nat.reduceLT, true_and, and_true, if_true, Bool.false_eq_true, if_false, true_implies, false_implies, forall_const, decide_eq_true_eq, decide_eq_false_iff_not, Bool.not_eq_true', Bool.not_eq_false', reduceCtorEq, w_ixT ar_2]
    · rw [show (l.map fun r => PV.d (.int r.w)) = (l.map Ar.w).map fun b => PV.d (.int b) by rw [List.map_map]; rfl]
      simp only [Pe.Pw.ws, List.set_cons_zero, List.set_cons_succ, List.length_cons, List.length_nil, List.map_cons, List.map_nil, List.cons_append, List.nil_append, List.replicate_succ, List.replicate_zero, Nat.reduceSub, Nat.reduceAdd, Nat.reduceLT, true_and, and_true, if_true, Bool.false_eq_true, if_false, true_implies, false_implies, forall_const, decide_eq_true_eq, decide_eq_false_iff_not, Bool.not_eq_true', Bool.not_eq_false', reduceCtorEq]
      rw [List.take_left]
def lisClashB (rw_ : Nat) : List S := [.asg (.nm 2) (.call rw_ [(.var 0), (.var 1)]), .ret (.an (.cmp .notN (.var 2) (.cst .non)) (.cmp .lt (.var 2) (.cst (.int 0))))]
theorem lisClash_e {rw_ ra la : Nat} (is : Is FT f 2 3 (lisClashB rw_)) (irw : Is FT rw_ 2 4 (lringWeightB ra)) (ira : Is FT ra 2 7 (lringArcsB la)) (ila : Is FT la 1 7 larcsB) (nb : nbD p = true) (sm : ∀ ps, p = .tup ps → ps.length < 900 ∧ ∀ q ∈ ps, Sm 9 q) (hl : rs.length ≤ 1000) : cal FT (d + 4) f [.d (rsD rs), .d p] h = some (.d (.bl (clD rs p)), h) := by
  refine eq_of_wp (is.call rfl ?_)
  unfold lisClashB
  have e1 := lringWeight_e (h := h) (d := d) (rs := rs) (p := p) irw ira ila nb sm hl
  unfold wgD at e1
  unfold clD
  cases q : rgD rs p with
  | none =>
    rw [q] at e1
    simp only [Pe.Pw.ws, List.set_cons_zero, List.set_cons_succ, List.length_cons, List.length_nil, List.map_cons, List.map_nil, List.cons_append, List.nil_append, List.replicate_succ, List.replicate_zero, Nat.reduceSub, Nat.reduceAdd, Nat.reduceLT, true_and, and_true, if_true, Bool.false_eq_true, if_false, true_implies, false_implies, forall_const, decide_eq_true_eq, decide_eq_false_iff_not, Bool.not_eq_true', Bool.not_eq_false', reduceCtorEq, w_iff e1, isNon, Bool.not_true, take_self]
  | some l =>
    rw [q] at e1
    simp only [Pe.Pw.ws, List.set_cons_zero, List.set_cons_succ, List.length_cons, List.length_nil, List.map_cons, List.map_nil, List.cons_append, List.nil_append, List.replicate_succ, List.replicate_zero, Nat.reduceSub, Nat.reduceAdd, Nat.reduceLT, true_and, and_true, if_true, Bool.false_eq_true, if_false, true_implies, false_implies, forall_const, decide_eq_true_eq, decide_eq_false_iff_not, Bool.not_eq_true', Bool.not_eq_false', reduceCtorEq, w_iff e1, isNon, Bool.not_false, take_self]
def ldrawnWayB (la tk pk : Nat) : List S := [.asg (.nm 4) (.call la [(.var 1)]), .asg (.nm 5) (.tup []), .asg (.nm 6) (.var 2), .fr (.nm 7) (.rng1 (.call tk [(.var 0), (.bin .add (.var 3) (.cst (.int 1)))])) [.asg (.nm 8) (.comp [9] (.nm 9) (.seq (.var 4)) true (.cmp .eq (.idx (.var 9) (.cst (.int 0))) (.var 6)) (.var 9)), .ife (.cmp .gt (.blt .len [(.var 8)]) (.cst (.int 0))) [.asg (.nm 9) (.call pk [(.var 0), (.var 8)]), .asg (.nm 5) (.bin .add (.var 5) (.tup [(.idx (.var 9) (.cst (.int 3)))])), .asg (.nm 6) (.idx (.var 9) (.cst (.int 1)))] []], .ret (.tup [(.var 5), (.var 6)])]
theorem ldrawnWay_w {la tk pk x most : Nat} (is : Is FT f 4 10 (ldrawnWayB la tk pk)) (ila : Is FT la 1 7 larcsB) (it : Is FT tk 2 2 takeB) (ip : Is FT pk 2 2 (pickB tk)) (hl : rs.length ≤ 1000) (hm : most ≤ 100) (a : Dr n h)
    (q : ∀ (l : List Ar) (y : Nat) h1, (∀ r ∈ l, r ∈ allA 0 rs) → l.length ≤ most → Dn n h h1 → Q (.d (.tup [.tup (l.map Ar.s), .int (y : Nat)])) h1) : Wp (cal FT (d + 3) f [.ref n, .d (rsD rs), .d (.int (x : Nat)), .d (.int (most : Nat))]) h Q := by
  refine is.call rfl ?_
  unfold ldrawnWayB
  have hz : sizeLine = 2 ^ 24 := rfl
  have hn := a.lt
  have al := allA_len rs 0
  let E : Option PV → Option PV → Option PV → Option PV → Option PV → Option PV → Env := fun e4 e5 e6 e7 e8 e9 => [some (.ref n), some (.d (rsD rs)), some (.d (.int (x : Nat))), some (.d (.int (most : Nat))), e4, e5, e6, e7, e8, e9]
  refine w_cut (fun e hh => hh = h ++ [Cell.lst (((allA 0 rs).map Ar.D).map .d)] ∧ e = E (some (.ref h.length)) none none none none none) ?_ ?_
  · simp only [Pe.Pw.ws, List.set_cons_zero, List.set_cons_succ, List.length_cons, List.length_nil, List.map_cons, List.map_nil, List.cons_append, List.nil_append, List.replicate_succ, List.replicate_zero, Nat.reduceSub, Nat.reduceAdd, Nat.reduceLT, true_and, and_true, if_true, Bool.false_eq_true, if_false, true_implies, false_implies, forall_const, decide_eq_true_eq, decide_eq_false_iff_not, Bool.not_eq_true', Bool.not_eq_false', reduceCtorEq, w_iff (larcs_e (h := h) (d := d + 1) ila hl), conv_tld]
    exact rfl
  rintro _ _ ⟨rfl, rfl⟩
  refine w_cut (fun e hh => hh = h ++ [Cell.lst (((allA 0 rs).map Ar.D).map .d)] ∧ e = E (some (.ref h.length)) (some (.d (.tup (([] : List Ar).map Ar.s)))) none none none none) ?_ ?_
  · simp only [Pe.Pw.ws, List.set_cons_zero, List.set_cons_succ, List.length_cons, List.length_nil, List.map_cons, List.map_nil, List.cons_append, List.nil_append, List.replicate_succ, List.replicate_zero, Nat.reduceSub, Nat.reduceAdd, Nat.reduceLT, true_and, and_true, if_true, Bool.false_eq_true, if_false, true_implies, false_implies, forall_const, decide_eq_true_eq, decide_eq_false_iff_not, Bool.not_eq_true', Bool.not_eq_false', reduceCtorEq, E, mkTup_nil]
    exact sz
  rintro _ _ ⟨rfl, rfl⟩
  refine w_cut (fun e hh => hh = h ++ [Cell.lst (((allA 0 rs).map Ar.D).map .d)] ∧ e = E (some (.ref h.length)) (some (.d (.tup (([] : List Ar).map Ar.s)))) (some (.d (.int (x : Nat)))) none none none) ?_ ?_
  · simp only [Pe.Pw.ws, List.set_cons_zero, List.set_cons_succ, List.length_cons, List.length_nil, List.map_cons, List.map_nil, List.cons_append, List.nil_append, List.replicate_succ, List.replicate_zero, Nat.reduceSub, Nat.reduceAdd, Nat.reduceLT, true_and, and_true, if_true, Bool.false_eq_true, if_false, true_implies, false_implies, forall_const, decide_eq_true_eq, decide_eq_false_iff_not, Bool.not_eq_true', Bool.not_eq_false', reduceCtorEq, E]
  rintro _ _ ⟨rfl, rfl⟩
  refine w_cut (fun e hh => ∃ (X gs : Hs) (l : List Ar) (y : Nat) (e7 e8 e9 : Option PV), Dn n h X ∧ (∀ r ∈ l, r ∈ allA 0 rs) ∧ l.length ≤ most ∧ hh = X ++ Cell.lst (((allA 0 rs).map Ar.D).map .d) :: gs ∧ e = E (some (.ref h.length)) (some (.d (.tup (l.map Ar.s)))) (some (.d (.int (y : Nat)))) e7 e8 e9) ?_ ?_
  · simp only [Pe.Pw.ws, List.set_cons_zero, List.set_cons_succ, List.length_cons, List.length_nil, List.map_cons, List.map_nil, List.cons_append, List.nil_append, List.replicate_succ, List.replicate_zero, Nat.reduceSub, Nat.reduceAdd, Nat.reduceLT, true_and, and_true, if_true, Bool.false_eq_true, if_false, true_implies, false_implies, forall_const, decide_eq_true_eq, decide_eq_false_iff_not, Bool.not_eq_true', Bool.not_eq_false', reduceCtorEq, E]
    refine take_w it (by omega) a.app fun r g r0 r1 b1 => ?_
    obtain ⟨X, rfl, b⟩ := b1.split hn
    obtain ⟨c, rfl⟩ := Int.eq_ofNat_of_zero_le r0
    simp only [Pe.Pw.ws, List.set_cons_zero, List.set_cons_succ, List.length_cons, List.length_nil, List.map_cons, List.map_nil, List.cons_append, List.nil_append, List.replicate_succ, List.replicate_zero, Nat.reduceSub, Nat.reduceAdd, Nat.reduceLT, true_and, and_true, if_true, Bool.false_eq_true, if_false, true_implies, false_implies, forall_const, decide_eq_true_eq, decide_eq_false_iff_not, Bool.not_eq_true', Bool.not_eq_false', reduceCtorEq]
    refine ⟨by omega, ?_⟩
    rw [show ((c : Int) - 0).toNat = c by omega]
    refine w_forN (fun i e hh => ∃ (X gs : Hs) (l : List Ar) (y : Nat) (e7 e8 e9 : Option PV), Dn n h X ∧ (∀ r ∈ l, r ∈ allA 0 rs) ∧ l.length ≤ i ∧ hh = X ++ Cell.lst (((allA 0 rs).map Ar.D).map .d) :: gs ∧ e = E (some (.ref h.length)) (some (.d (.tup (l.map Ar.s)))) (some (.d (.int (y : Nat)))) e7 e8 e9) ⟨X, [], [], x, _, _, _, b, fun _ z => absurd z List.not_mem_nil, Nat.le_refl _, rfl, rfl⟩ (fun i e hh hi p => ?_) fun e hh p => ?_
    rotate_left
    · obtain ⟨X, gs, l, y, e7, e8, e9, b, lm, ll, q⟩ := p
      exact ⟨X, gs, l, y, e7, e8, e9, b, lm, by omega, q⟩
    clear b b1
    obtain ⟨X, gs, l, y, e7, e8, e9, b, lm, ll, rfl, rfl⟩ := p
    have xl := b.len
    refine w_nm.mpr ⟨(by decide : 7 < 10), ?_⟩
    rw [conv_d]
    have cg : (X ++ Cell.lst (((allA 0 rs).map Ar.D).map .d) :: gs)[h.length]? = some (.lst (((allA 0 rs).map Ar.D).map .d)) := by rw [← xl]; exact gA0
    refine w_cut (fun e hh => ∃ (fl : List Ar) (c : Nat) (e9 : Option PV), (∀ r ∈ fl, r ∈ allA 0 rs) ∧ c = (X ++ Cell.lst (((allA 0 rs).map Ar.D).map .d) :: gs).length ∧ hh = (X ++ Cell.lst (((allA 0 rs).map Ar.D).map .d) :: gs) ++ [Cell.lst ((fl.map Ar.D).map .d)] ∧ e = E (some (.ref h.length)) (some (.d (.tup (l.map Ar.s)))) (some (.d (.int (y : Nat)))) (some (.d (.int (0 + (i : Int))))) (some (.ref c)) e9) ?_ ?_
    · simp only [Pe.Pw.ws, List.set_cons_zero, List.set_cons_succ, List.length_cons, List.length_nil, List.map_cons, List.map_nil, List.cons_append, List.nil_append, List.replicate_succ, List.replicate_zero, Nat.reduceSub, Nat.reduceAdd, Nat.reduceLT, true_and, and_true, if_true, Bool.false_eq_true, if_false, true_implies, false_implies, forall_const, decide_eq_true_eq, decide_eq_false_iff_not, Bool.not_eq_true', Bool.not_eq_false', reduceCtorEq, E]
      refine w_clf (h := X ++ Cell.lst (((allA 0 rs).map Ar.D).map .d) :: gs) (allA 0 rs) (fun r => .d r.D) (fun r => if decide ((r.a : Int) = (y : Int)) then some (.d r.D) else none) (its_cellM cg) (by omega) (fun r hr => ?_) ?_
      · unfold Ar.D
        simp only [Pe.Pw.ws, List.set_cons_zero, List.set_cons_succ, List.length_cons, List.length_nil, List.map_cons, List.map_nil, List.cons_append, List.nil_append, List.replicate_succ, List.replicate_zero, Nat.reduceSub, Nat.reduceAdd, Nat.reduceLT, true_and, and_true, if_true, Bool.false_eq_true, if_false, true_implies, false_implies, forall_const, decide_eq_true_eq, decide_eq_false_iff_not, Bool.not_eq_true', Bool.not_eq_false', reduceCtorEq, w_ixT ar_0]
        exact ⟨fun k => by rw [if_pos k], fun k => by rw [if_neg k]⟩
      · rw [fm_filter, show ((allA 0 rs).filter fun r => decide ((r.a : Int) = (y : Int))).map (fun r => PV.d r.D) = (((allA 0 rs).filter fun r => decide ((r.a : Int) = (y : Int))).map Ar.D).map .d by rw [List.map_map]; rfl, conv_tld]
        exact ⟨_, _, _, fun r hr => (List.mem_filter.mp hr).1, rfl, rfl, rfl⟩
    rintro _ _ ⟨fl, c, e9, fm, hc, rfl, rfl⟩
    have cf : ((X ++ Cell.lst (((allA 0 rs).map Ar.D).map .d) :: gs) ++ [Cell.lst ((fl.map Ar.D).map .d)])[c]? = some (.lst ((fl.map Ar.D).map .d)) := by rw [hc]; exact gA0
    have cn : c ≠ n := by rw [hc, List.length_append]; omega
    rw [List.append_assoc, List.cons_append] at cf ⊢
    simp only [Pe.Pw.ws, List.set_cons_zero, List.set_cons_succ, List.length_cons, List.length_nil, List.map_cons, List.map_nil, List.cons_append, List.nil_append, List.replicate_succ, List.replicate_zero, Nat.reduceSub, Nat.reduceAdd, Nat.reduceLT, true_and, and_true, if_true, Bool.false_eq_true, if_false, true_implies, false_implies, forall_const, decide_eq_true_eq, decide_eq_false_iff_not, Bool.not_eq_true', Bool.not_eq_false', reduceCtorEq, E, w_lenR cf, List.length_map]
    refine ⟨fun z => ?_, fun _ => ⟨X, gs ++ [Cell.lst ((fl.map Ar.D).map .d)], l, y, _, _, _, b, lm, by omega, rfl, rfl⟩⟩
    refine pick_r ip it cf cn (by rw [List.length_map]; omega) (b.dr a).app fun v g hv b1 => ?_
    obtain ⟨X2, rfl, c2⟩ := b1.split (by omega)
    obtain ⟨r, hr, rfl⟩ := List.mem_map.mp hv
    unfold Ar.D
    simp only [Pe.Pw.ws, List.set_cons_zero, List.set_cons_succ, List.length_cons, List.length_nil, List.map_cons, List.map_nil, List.cons_append, List.nil_append, List.replicate_succ, List.replicate_zero, Nat.reduceSub, Nat.reduceAdd, Nat.reduceLT, true_and, and_true, if_true, Bool.false_eq_true, if_false, true_implies, false_implies, forall_const, decide_eq_true_eq, decide_eq_false_iff_not, Bool.not_eq_true', Bool.not_eq_false', reduceCtorEq, w_ixT ar_3, w_ixT ar_1, mkTup_1, List.length_map]
    refine ⟨sz, by omega, ?_⟩
    refine ⟨X2, _, l ++ [r], r.b, _, _, _, b.trans c2, fun z hz => ?_, by rw [List.length_append, List.length_singleton]; omega, rfl, by rw [List.map_append]; rfl⟩
    rcases List.mem_append.mp hz with hz | hz
    · exact lm z hz
    · rw [List.mem_singleton.mp hz]; exact fm r hr
  rintro _ _ ⟨X, gs, l, y, e7, e8, e9, b, lm, ll, rfl, rfl⟩
  simp only [Pe.Pw.ws, List.set_cons_zero, List.set_cons_succ, List.length_cons, List.length_nil, List.map_cons, List.map_nil, List.cons_append, List.nil_append, List.replicate_succ, List.replicate_zero, Nat.reduceSub, Nat.reduceAdd, Nat.reduceLT, true_and, and_true, if_true, Bool.false_eq_true, if_false, true_implies, false_implies, forall_const, decide_eq_true_eq, decide_eq_false_iff_not, Bool.not_eq_true', Bool.not_eq_false', reduceCtorEq, E, mkTup_2]
  rw [b.take]
  exact ⟨sz, q l y X lm ll b⟩
def lsideWeightB (la : Nat) : List S := [.ret (.idx (.comp [2] (.nm 2) (.seq (.call la [(.var 0)])) true (.cmp .eq (.idx (.var 2) (.cst (.int 3))) (.var 1)) (.idx (.var 2) (.cst (.int 2)))) (.cst (.int 0)))]
theorem lsideWeight_e {la : Nat} {r : Ar} (is : Is FT f 2 3 (lsideWeightB la)) (ila : Is FT la 1 7 larcsB) (hr : r ∈ allA 0 rs) (hl : rs.length ≤ 1000) : cal FT (d + 2) f [.d (rsD rs), .d r.s] h = some (.d (.int r.w), h) := by
  refine eq_of_wp (is.call rfl ?_)
  unfold lsideWeightB
  have hz : sizeLine = 2 ^ 24 := rfl
  have al := allA_len rs 0
  simp only [Pe.Pw.ws, List.set_cons_zero, List.set_cons_succ, List.length_cons, List.length_nil, List.map_cons, List.map_nil, List.cons_append, List.nil_append, List.replicate_succ, List.replicate_zero, Nat.reduceSub, Nat.reduceAdd, Nat.reduceLT, true_and, and_true, if_true, Bool.false_eq_true, if_false, true_implies, false_implies, forall_const, decide_eq_true_eq, decide_eq_false_iff_not, Bool.not_eq_true', Bool.not_eq_false', reduceCtorEq, w_iff (larcs_e (h := h) (d := d) ila hl)]
  refine w_clf (allA 0 rs) (fun q => .d q.D) (fun q => if PyData.eqv q.s.py r.s.py then some (.d (.int q.w)) else none) (by rw [show ((allA 0 rs).map fun q => PV.d q.D) = ((allA 0 rs).map Ar.D).map .d by rw [List.map_map]; rfl]; exact its_imm) (by omega) (fun q hq => ?_) ?_
  · unfold Ar.D
    simp only [Pe.Pw.ws, List.set_cons_zero, List.set_cons_succ, List.length_cons, List.length_nil, List.map_cons, List.map_nil, List.cons_append, List.nil_append, List.replicate_succ, List.replicate_zero, Nat.reduceSub, Nat.reduceAdd, Nat.reduceLT, true_and, and_true, if_true, Bool.false_eq_true, if_false, true_implies, false_implies, forall_const, decide_eq_true_eq, decide_eq_false_iff_not, Bool.not_eq_true', Bool.not_eq_false', reduceCtorEq, w_ixT ar_3, w_eqD (k := 9) (by decide) (s_sm (k := 8) hq) (s_sm (k := 8) hr), w_ixT ar_2]
    cases PyData.eqv q.s.py r.s.py <;> simp
  · rw [fm_filter]
    have e := fnd_filter (rs := rs) (s_nb hr).1
    rw [fnd_of hr] at e
    have e0 : L2.atI (((allA 0 rs).filter fun q => PyData.eqv q.s.py r.s.py).map fun q => PV.d (.int q.w)) 0 = some (.d (.int r.w)) := by
      rw [e]
      show L2.atI _ ((0 : Nat) : Int) = _
      rw [atI_nat]
      rfl
    simp only [Pe.Pw.ws, List.set_cons_zero, List.set_cons_succ, List.length_cons, List.length_nil, List.map_cons, List.map_nil, List.cons_append, List.nil_append, List.replicate_succ, List.replicate_zero, Nat.reduceSub, Nat.reduceAdd, Nat.reduceLT, true_and, and_true, if_true, Bool.false_eq_true, if_false, true_implies, false_implies, forall_const, decide_eq_true_eq, decide_eq_false_iff_not, Bool.not_eq_true', Bool.not_eq_false', reduceCtorEq, w_ixL e0]
    rw [take_self]
theorem w_indexL {k : Nat} {xs : List D} {x : D} (hk : k < 64) (hx : x ∈ xs) (sm : ∀ y ∈ xs, Sm k y) (nb : nbD x = true) : ∃ j : Nat, j < xs.length ∧ ∀ (fb : Nat) (h : Hs) (Q : PV → Hs → Prop), Wp (mthV fb .index (.tl (xs.map .d)) [.d x]) h Q ↔ Q (.d (.int (j : Nat))) h := by
  have t1 : ∀ h, toPy h (.tl (xs.map .d)) = some (.list (xs.map D.py)) := fun h => toPy_tlD
  have s1 := ds_sh hk sm
  have s2 := sm_shaped (by omega) (sm x hx)
  obtain ⟨j, ej⟩ : ∃ j, (xs.map D.py).findIdx? (fun z => PyData.eqv z x.py) = some j := by
    cases q : (xs.map D.py).findIdx? (fun z => PyData.eqv z x.py) with
    | some j => exact ⟨j, rfl⟩
    | none =>
      rw [List.findIdx?_eq_none_iff] at q
      have := q x.py (List.mem_map.mpr ⟨x, hx, rfl⟩)
      rw [(eqv_nb x x nb nb).mpr rfl] at this
      cases this
  have hj : j < xs.length := by
    rw [List.findIdx?_eq_some_iff_getElem] at ej
    obtain ⟨h, _⟩ := ej
    rwa [List.length_map] at h
  refine ⟨j, hj, fun fb h Q => w_iff ?_⟩
  show (match toPy h (.tl (xs.map .d)), toPy h (.d x) with
    | some (.list ds), some d => if SeqAt.shaped (.list ds) && SeqAt.shaped d then (match ds.findIdx? fun z => PyData.eqv z d with
      | some j => some (PV.d (.int (j : Nat)), h)
      | none => none) else none
    | _, _ => none) = _
  rw [t1]
  show (if SeqAt.shaped (.list (xs.map D.py)) && SeqAt.shaped x.py then (match (xs.map D.py).findIdx? fun z => PyData.eqv z x.py with
      | some j => some (PV.d (.int (j : Nat)), h)
      | none => none) else none) = _
  rw [s1, s2, ej]
  rfl
end
end Pe.Pw
section
open PySem Pe
def K33.f0 : Fn := ⟨(Str.ofString "is_number"), [(Str.ofString "part")], 1, [.ret (.an (.blt (.isi [.int]) [(.var 0)]) (.nt (.blt (.isi [.bool]) [(.var 0)])))]⟩
def K33.f1 : Fn := ⟨(Str.ofString "is_row_of"), [(Str.ofString "part"), (Str.ofString "size")], 2, [.ret (.an (.blt (.isi [.tuple]) [(.var 0)]) (.cmp .eq (.blt .len [(.var 0)]) (.var 1)))]⟩
def K33.f2 : Fn := ⟨(Str.ofString "side_ends"), [(Str.ofString "readings"), (Str.ofString "side"), (Str.ofString "index"), (Str.ofString "sign"), (Str.ofString "a"), (Str.ofString "b"), (Str.ofString "low"), (Str.ofString "high")], 2, [.asg (.tup [(.nm 2), (.nm 3)]) (.var 1), .asg (.tup [(.nm 4), (.nm 5), (.nm 6), (.nm 7)]) (.idx (.var 0) (.var 2)), .ife (.cmp .eq (.var 3) (.cst (.int 1))) [.ret (.tup [(.var 4), (.var 5), (.var 7)])] [], .ret (.tup [(.var 5), (.var 4), (.un .neg (.var 6))])]⟩
def K33.f3 : Fn := ⟨(Str.ofString "way_weight"), [(Str.ofString "readings"), (Str.ofString "way"), (Str.ofString "side")], 2, [.ret (.blt .sum [(.comp [2] (.nm 2) (.seq (.var 1)) false (.cst (.bl true)) (.idx (.call 2 [(.var 0), (.var 2)]) (.cst (.int 2))))])]⟩
def K33.f4 : Fn := ⟨(Str.ofString "is_side"), [(Str.ofString "readings"), (Str.ofString "part"), (Str.ofString "index"), (Str.ofString "sign")], 2, [.ife (.orr (.nt (.call 1 [(.var 1), (.cst (.int 2))])) (.orr (.nt (.call 0 [(.idx (.var 1) (.cst (.int 0)))])) (.nt (.call 0 [(.idx (.var 1) (.cst (.int 1)))])))) [.ret (.cst (.bl false))] [], .asg (.tup [(.nm 2), (.nm 3)]) (.var 1), .ife (.nt (.chn .le .lt (.cst (.int 0)) (.var 2) (.blt .len [(.var 0)]))) [.ret (.cst (.bl false))] [], .ife (.cmp .eq (.var 3) (.cst (.int 1))) [.ret (.cmp .notN (.idx (.idx (.var 0) (.var 2)) (.cst (.int 3))) (.cst .non))] [], .ret (.an (.cmp .eq (.var 3) (.un .neg (.cst (.int 1)))) (.cmp .notN (.idx (.idx (.var 0) (.var 2)) (.cst (.int 2))) (.cst .non)))]⟩
def K33.f5 : Fn := ⟨(Str.ofString "is_way"), [(Str.ofString "marks"), (Str.ofString "readings"), (Str.ofString "x"), (Str.ofString "y"), (Str.ofString "way"), (Str.ofString "now"), (Str.ofString "side"), (Str.ofString "begin"), (Str.ofString "end"), (Str.ofString "_"), (Str.ofString "part")], 5, [.ife (.orr (.nt (.blt (.isi [.tuple]) [(.var 4)])) (.nt (.blt .all [(.comp [10] (.nm 10) (.seq (.var 4)) false (.cst (.bl true)) (.call 4 [(.var 1), (.var 10)]))]))) [.ret (.cst (.bl false))] [], .asg (.nm 5) (.var 2), .fr (.nm 6) (.seq (.var 4)) [.asg (.tup [(.nm 7), (.nm 8), (.nm 9)]) (.call 2 [(.var 1), (.var 6)]), .ife (.cmp .ne (.var 7) (.var 5)) [.ret (.cst (.bl false))] [], .asg (.nm 5) (.var 8)], .ret (.cmp .eq (.var 5) (.var 3))]⟩
def K33.f6 : Fn := ⟨(Str.ofString "is_ring"), [(Str.ofString "marks"), (Str.ofString "readings"), (Str.ofString "ring"), (Str.ofString "begin"), (Str.ofString "side")], 3, [.ife (.orr (.nt (.blt (.isi [.tuple]) [(.var 2)])) (.orr (.cmp .lt (.blt .len [(.var 2)]) (.cst (.int 2))) (.nt (.call 4 [(.var 1), (.idx (.var 2) (.cst (.int 0)))])))) [.ret (.cst (.bl false))] [], .asg (.nm 3) (.idx (.call 2 [(.var 1), (.idx (.var 2) (.cst (.int 0)))]) (.cst (.int 0))), .ife (.nt (.call 5 [(.var 0), (.var 1), (.var 3), (.var 3), (.var 2)])) [.ret (.cst (.bl false))] [], .ret (.cmp .eq (.lsc [4] (.nm 4) (.seq (.var 2)) false (.cst (.bl true)) (.idx (.call 2 [(.var 1), (.var 4)]) (.cst (.int 0)))) (.blt .len [(.var 2)]))]⟩
def K33.f7 : Fn := ⟨(Str.ofString "is_clash"), [(Str.ofString "marks"), (Str.ofString "readings"), (Str.ofString "ring")], 3, [.ret (.an (.call 6 [(.var 0), (.var 1), (.var 2)]) (.cmp .lt (.call 3 [(.var 1), (.var 2)]) (.cst (.int 0))))]⟩
def K33.f8 : Fn := ⟨(Str.ofString "_law_draws"), [(Str.ofString "script"), (Str.ofString "many"), (Str.ofString "cells"), (Str.ofString "left"), (Str.ofString "draws"), (Str.ofString "k"), (Str.ofString "place"), (Str.ofString "cell"), (Str.ofString "mixed")], 2, [.asg (.nm 2) (.comp [7] (.nm 7) (.seq (.slc false true (.var 0) (.cst .non) (.cst (.int 63)))) false (.cst (.bl true)) (.bin .mod (.blt .int [(.var 7)]) (.bin .shl (.cst (.int 1)) (.cst (.int 7200))))), .ife (.cmp .eq (.blt .len [(.var 2)]) (.cst (.int 0))) [.ex (.mth .append (.var 2) [(.cst (.int 0))])] [], .asg (.nm 3) (.blt .list [(.var 2)]), .asg (.nm 4) (.lst []), .fr (.nm 5) (.rng1 (.var 1)) [.asg (.nm 6) (.bin .mod (.blt .int [(.var 5)]) (.blt .len [(.var 2)])), .ife (.an (.cmp .ge (.idx (.var 2) (.var 6)) (.bin .pow (.cst (.int 10)) (.cst (.int 18)))) (.cmp .gt (.idx (.var 3) (.var 6)) (.cst (.int 0)))) [.ex (.mth .append (.var 4) [(.bin .mod (.blt .int [(.idx (.var 3) (.var 6))]) (.cst (.int 1000)))]), .sub (.var 3) (.var 6) (.bin .fdiv (.idx (.var 3) (.var 6)) (.cst (.int 1000)))] [.asg (.nm 8) (.bin .mod (.blt .int [(.bin .add (.bin .add (.bin .mul (.idx (.var 2) (.var 6)) (.cst (.int 48271))) (.bin .mul (.var 5) (.cst (.int 69621)))) (.cst (.int 11)))]) (.cst (.int 2147483647))), .ex (.mth .append (.var 4) [(.bin .mod (.blt .int [(.bin .add (.bin .add (.bin .mul (.var 8) (.var 8)) (.bin .mul (.cst (.int 3)) (.var 8))) (.var 5))]) (.cst (.int 1000003)))])]], .ex (.mth .reverse (.var 4) []), .ret (.var 4)]⟩
def K33.f9 : Fn := ⟨(Str.ofString "_law_take"), [(Str.ofString "draws"), (Str.ofString "many")], 2, [.ife (.cmp .eq (.blt .len [(.var 0)]) (.cst (.int 0))) [.ret (.cst (.int 0))] [], .ret (.bin .mod (.blt .int [(.mth .pop (.var 0) [])]) (.var 1))]⟩
def K33.f10 : Fn := ⟨(Str.ofString "_law_pick"), [(Str.ofString "draws"), (Str.ofString "row")], 2, [.ret (.idx (.var 1) (.call 9 [(.var 0), (.blt .len [(.var 1)])]))]⟩
def K33.f11 : Fn := ⟨(Str.ofString "_law_same"), [(Str.ofString "actual"), (Str.ofString "due"), (Str.ofString "k")], 2, [.ife (.blt (.isi [.tuple, .list]) [(.var 1)]) [.ife (.orr (.cmp .ne (.blt (.isi [.tuple]) [(.var 0)]) (.blt (.isi [.tuple]) [(.var 1)])) (.cmp .ne (.blt (.isi [.list]) [(.var 0)]) (.blt (.isi [.list]) [(.var 1)]))) [.ret (.cst (.bl false))] [], .ife (.cmp .ne (.blt .len [(.var 0)]) (.blt .len [(.var 1)])) [.ret (.cst (.bl false))] [], .ret (.cmp .nin (.cst (.bl false)) (.comp [2] (.nm 2) (.rng1 (.blt .len [(.var 1)])) false (.cst (.bl true)) (.call 11 [(.idx (.var 0) (.var 2)), (.idx (.var 1) (.var 2))])))] [], .ife (.orr (.cmp .ne (.blt (.isi [.bool]) [(.var 0)]) (.blt (.isi [.bool]) [(.var 1)])) (.cmp .ne (.blt (.isi [.int]) [(.var 0)]) (.blt (.isi [.int]) [(.var 1)]))) [.ret (.cst (.bl false))] [], .ife (.orr (.cmp .ne (.blt (.isi [.str]) [(.var 0)]) (.blt (.isi [.str]) [(.var 1)])) (.cmp .ne (.cmp .isN (.var 0) (.cst .non)) (.cmp .isN (.var 1) (.cst .non)))) [.ret (.cst (.bl false))] [], .ret (.cmp .eq (.var 0) (.var 1))]⟩
def K33.f12 : Fn := ⟨(Str.ofString "_law_shuffled"), [(Str.ofString "draws"), (Str.ofString "row"), (Str.ofString "left"), (Str.ofString "told"), (Str.ofString "k")], 2, [.asg (.nm 2) (.blt .list [(.var 1)]), .asg (.nm 3) (.lst []), .fr (.nm 4) (.rng1 (.blt .len [(.var 2)])) [.ex (.mth .append (.var 3) [(.mth .popAt (.var 2) [(.call 9 [(.var 0), (.blt .len [(.var 2)])])])])], .ret (.var 3)]⟩
def K33.f13 : Fn := ⟨(Str.ofString "_law_put"), [(Str.ofString "row"), (Str.ofString "k"), (Str.ofString "thing")], 3, [.ret (.bin .add (.bin .add (.slc false true (.var 0) (.cst .non) (.var 1)) (.tup [(.var 2)])) (.slc true false (.var 0) (.bin .add (.var 1) (.cst (.int 1))) (.cst .non)))]⟩
def K33.f14 : Fn := ⟨(Str.ofString "_law_scale"), [(Str.ofString "draws")], 1, [.ife (.cmp .eq (.call 9 [(.var 0), (.cst (.int 8))]) (.cst (.int 0))) [.ret (.call 10 [(.var 0), (.lst [(.cst (.int 1000003)), (.bin .add (.bin .pow (.cst (.int 10)) (.cst (.int 15))) (.cst (.int 37))), (.bin .add (.bin .pow (.cst (.int 10)) (.cst (.int 40))) (.cst (.int 121)))])])] [], .ret (.cst (.int 1))]⟩
def K33.f15 : Fn := ⟨(Str.ofString "_law_spots"), [(Str.ofString "draws"), (Str.ofString "marks"), (Str.ofString "scale"), (Str.ofString "k")], 3, [.ret (.blt .tuple [(.bin .add (.lst [(.cst (.int 0))]) (.comp [3] (.nm 3) (.rng1 (.bin .sub (.var 1) (.cst (.int 1)))) false (.cst (.bl true)) (.bin .mul (.var 2) (.bin .sub (.call 9 [(.var 0), (.cst (.int 19))]) (.cst (.int 9))))))])]⟩
def K33.f16 : Fn := ⟨(Str.ofString "_law_two"), [(Str.ofString "draws"), (Str.ofString "marks"), (Str.ofString "a")], 2, [.asg (.nm 2) (.call 9 [(.var 0), (.var 1)]), .ret (.tup [(.var 2), (.bin .mod (.blt .int [(.bin .add (.bin .add (.var 2) (.cst (.int 1))) (.call 9 [(.var 0), (.bin .sub (.var 1) (.cst (.int 1)))]))]) (.var 1))])]⟩
def K33.f17 : Fn := ⟨(Str.ofString "_law_kept_reading"), [(Str.ofString "draws"), (Str.ofString "spots"), (Str.ofString "scale"), (Str.ofString "off"), (Str.ofString "low"), (Str.ofString "high"), (Str.ofString "kind"), (Str.ofString "a"), (Str.ofString "b")], 3, [.asg (.tup [(.nm 7), (.nm 8)]) (.call 16 [(.var 0), (.blt .len [(.var 1)])]), .asg (.nm 3) (.bin .sub (.idx (.var 1) (.var 8)) (.idx (.var 1) (.var 7))), .asg (.nm 4) (.bin .sub (.var 3) (.bin .mul (.var 2) (.call 10 [(.var 0), (.lst [(.cst (.int 0)), (.cst (.int 0)), (.cst (.int 1)), (.cst (.int 3))])]))), .asg (.nm 5) (.bin .add (.var 3) (.bin .mul (.var 2) (.call 10 [(.var 0), (.lst [(.cst (.int 0)), (.cst (.int 0)), (.cst (.int 1)), (.cst (.int 4))])]))), .asg (.nm 6) (.call 9 [(.var 0), (.cst (.int 12))]), .ife (.orr (.cmp .lt (.var 6) (.cst (.int 3))) (.cmp .eq (.var 6) (.cst (.int 11)))) [.asg (.nm 4) (.cst .non)] [], .ife (.cmp .gt (.var 6) (.cst (.int 8))) [.asg (.nm 5) (.cst .non)] [], .ret (.tup [(.var 7), (.var 8), (.var 4), (.var 5)])]⟩
def K33.f18 : Fn := ⟨(Str.ofString "_law_kept_readings"), [(Str.ofString "draws"), (Str.ofString "spots"), (Str.ofString "many"), (Str.ofString "scale"), (Str.ofString "told"), (Str.ofString "k")], 4, [.asg (.nm 4) (.lst []), .ife (.cmp .lt (.blt .len [(.var 1)]) (.cst (.int 2))) [.ret (.var 4)] [], .fr (.nm 5) (.rng1 (.var 2)) [.ex (.mth .append (.var 4) [(.call 17 [(.var 0), (.var 1), (.var 3)])]), .ife (.cmp .eq (.call 9 [(.var 0), (.cst (.int 8))]) (.cst (.int 0))) [.sub (.var 4) (.var 5) (.idx (.var 4) (.call 9 [(.var 0), (.bin .add (.var 5) (.cst (.int 1)))]))] []], .ret (.var 4)]⟩
def K33.f19 : Fn := ⟨(Str.ofString "_law_ring_readings"), [(Str.ofString "draws"), (Str.ofString "row"), (Str.ofString "total"), (Str.ofString "scale"), (Str.ofString "lone"), (Str.ofString "weights"), (Str.ofString "told"), (Str.ofString "k"), (Str.ofString "u"), (Str.ofString "v"), (Str.ofString "more"), (Str.ofString "bare"), (Str.ofString "mark")], 5, [.asg (.nm 5) (.comp [12] (.nm 12) (.seq (.var 1)) false (.cst (.bl true)) (.bin .mul (.var 3) (.bin .sub (.call 9 [(.var 0), (.cst (.int 15))]) (.cst (.int 7))))), .sub (.var 5) (.cst (.int 0)) (.bin .sub (.bin .add (.idx (.var 5) (.cst (.int 0))) (.var 2)) (.blt .sum [(.var 5)])), .asg (.nm 6) (.lst []), .fr (.nm 7) (.rng1 (.blt .len [(.var 1)])) [.asg (.nm 8) (.idx (.var 1) (.var 7)), .asg (.nm 9) (.idx (.var 1) (.bin .mod (.blt .int [(.bin .add (.var 7) (.cst (.int 1)))]) (.blt .len [(.var 1)]))), .asg (.nm 10) (.bin .mul (.var 3) (.bin .add (.cst (.int 1)) (.call 9 [(.var 0), (.cst (.int 9))]))), .asg (.nm 11) (.orr (.cmp .eq (.var 4) (.cst (.int 1))) (.cmp .eq (.call 9 [(.var 0), (.cst (.int 2))]) (.cst (.int 0)))), .ife (.cmp .eq (.call 9 [(.var 0), (.cst (.int 2))]) (.cst (.int 0))) [.ex (.mth .append (.var 6) [(.tup [(.var 8), (.var 9), (.idx (.lst [(.bin .sub (.idx (.var 5) (.var 7)) (.var 10)), (.cst .non)]) (.blt .int [(.var 11)])), (.idx (.var 5) (.var 7))])])] [.ex (.mth .append (.var 6) [(.tup [(.var 9), (.var 8), (.un .neg (.idx (.var 5) (.var 7))), (.idx (.lst [(.bin .sub (.var 10) (.idx (.var 5) (.var 7))), (.cst .non)]) (.blt .int [(.var 11)]))])])]], .ret (.var 6)]⟩
def K33.f20 : Fn := ⟨(Str.ofString "_law_arcs"), [(Str.ofString "readings"), (Str.ofString "told"), (Str.ofString "k"), (Str.ofString "a"), (Str.ofString "b"), (Str.ofString "low"), (Str.ofString "high")], 1, [.asg (.nm 1) (.lst []), .fr (.nm 2) (.rng1 (.blt .len [(.var 0)])) [.asg (.tup [(.nm 3), (.nm 4), (.nm 5), (.nm 6)]) (.idx (.var 0) (.var 2)), .ife (.cmp .notN (.var 5) (.cst .non)) [.ex (.mth .append (.var 1) [(.tup [(.var 4), (.var 3), (.un .neg (.var 5)), (.tup [(.var 2), (.un .neg (.cst (.int 1)))])])])] [], .ife (.cmp .notN (.var 6) (.cst .non)) [.ex (.mth .append (.var 1) [(.tup [(.var 3), (.var 4), (.var 6), (.tup [(.var 2), (.cst (.int 1))])])])] []], .ret (.var 1)]⟩
def K33.f21 : Fn := ⟨(Str.ofString "_law_ring_arcs"), [(Str.ofString "readings"), (Str.ofString "ring"), (Str.ofString "arcs"), (Str.ofString "told"), (Str.ofString "side"), (Str.ofString "found"), (Str.ofString "arc")], 2, [.ife (.orr (.nt (.blt (.isi [.tuple]) [(.var 1)])) (.cmp .lt (.blt .len [(.var 1)]) (.cst (.int 2)))) [.ret (.cst .non)] [], .asg (.nm 2) (.call 20 [(.var 0)]), .asg (.nm 3) (.lst []), .fr (.nm 4) (.seq (.var 1)) [.asg (.nm 5) (.comp [6] (.nm 6) (.seq (.var 2)) true (.cmp .eq (.idx (.var 6) (.cst (.int 3))) (.var 4)) (.var 6)), .ife (.orr (.cmp .eq (.blt .len [(.var 5)]) (.cst (.int 0))) (.an (.cmp .gt (.blt .len [(.var 3)]) (.cst (.int 0))) (.cmp .ne (.idx (.idx (.var 3) (.bin .sub (.blt .len [(.var 3)]) (.cst (.int 1)))) (.cst (.int 1))) (.idx (.idx (.var 5) (.cst (.int 0))) (.cst (.int 0)))))) [.ret (.cst .non)] [], .ex (.mth .append (.var 3) [(.idx (.var 5) (.cst (.int 0)))])], .ife (.orr (.cmp .ne (.idx (.idx (.var 3) (.bin .sub (.blt .len [(.var 3)]) (.cst (.int 1)))) (.cst (.int 1))) (.idx (.idx (.var 3) (.cst (.int 0))) (.cst (.int 0)))) (.cmp .ne (.lset (.comp [6] (.nm 6) (.seq (.var 3)) false (.cst (.bl true)) (.idx (.var 6) (.cst (.int 0))))) (.blt .len [(.var 3)]))) [.ret (.cst .non)] [], .ret (.var 3)]⟩
def K33.f22 : Fn := ⟨(Str.ofString "_law_ring_weight"), [(Str.ofString "readings"), (Str.ofString "ring"), (Str.ofString "arcs"), (Str.ofString "arc")], 2, [.asg (.nm 2) (.call 21 [(.var 0), (.var 1)]), .ife (.cmp .isN (.var 2) (.cst .non)) [.ret (.cst .non)] [], .ret (.blt .sum [(.comp [3] (.nm 3) (.seq (.var 2)) false (.cst (.bl true)) (.idx (.var 3) (.cst (.int 2))))])]⟩
def K33.f23 : Fn := ⟨(Str.ofString "_law_is_clash"), [(Str.ofString "readings"), (Str.ofString "ring"), (Str.ofString "weight")], 2, [.asg (.nm 2) (.call 22 [(.var 0), (.var 1)]), .ret (.an (.cmp .notN (.var 2) (.cst .non)) (.cmp .lt (.var 2) (.cst (.int 0))))]⟩
def K33.f24 : Fn := ⟨(Str.ofString "_law_is_way"), [(Str.ofString "readings"), (Str.ofString "x"), (Str.ofString "y"), (Str.ofString "way"), (Str.ofString "arcs"), (Str.ofString "now"), (Str.ofString "side"), (Str.ofString "found"), (Str.ofString "arc")], 4, [.ife (.nt (.blt (.isi [.tuple]) [(.var 3)])) [.ret (.cst (.bl false))] [], .asg (.nm 4) (.call 20 [(.var 0)]), .asg (.nm 5) (.var 1), .fr (.nm 6) (.seq (.var 3)) [.asg (.nm 7) (.comp [8] (.nm 8) (.seq (.var 4)) true (.cmp .eq (.idx (.var 8) (.cst (.int 3))) (.var 6)) (.var 8)), .ife (.orr (.cmp .eq (.blt .len [(.var 7)]) (.cst (.int 0))) (.cmp .ne (.idx (.idx (.var 7) (.cst (.int 0))) (.cst (.int 0))) (.var 5))) [.ret (.cst (.bl false))] [], .asg (.nm 5) (.idx (.idx (.var 7) (.cst (.int 0))) (.cst (.int 1)))], .ret (.cmp .eq (.var 5) (.var 2))]⟩
def K33.f25 : Fn := ⟨(Str.ofString "_law_odd"), [(Str.ofString "draws")], 1, [.ret (.call 10 [(.var 0), (.lst [(.cst .non), (.cst (.int 7)), (.cst (.str (Str.ofString "ab"))), (.tup []), (.tup [(.tup [])]), (.tup [(.cst (.str (Str.ofString "ab")))]), (.tup [(.cst .non)]), (.tup [(.tup [(.cst (.int 0)), (.cst (.str (Str.ofString "ab")))])]), (.tup [(.cst (.int 0))]), (.tup [(.tup [(.cst (.int 0)), (.cst (.int 1))]), (.tup [(.cst (.int 1)), (.cst (.int 1))])])])])]⟩
def K33.f26 : Fn := ⟨(Str.ofString "_law_bent_leaf"), [(Str.ofString "draws"), (Str.ofString "leaf")], 2, [.ife (.cmp .isN (.var 1) (.cst .non)) [.ret (.call 10 [(.var 0), (.lst [(.cst (.int 0)), (.cst (.str (Str.ofString "ab"))), (.tup [])])])] [], .ife (.blt (.isi [.str]) [(.var 1)]) [.ret (.call 10 [(.var 0), (.lst [(.bin .add (.var 1) (.cst (.str (Str.ofString "a")))), (.cst (.int 0)), (.cst .non), (.tup [(.var 1)])])])] [], .ret (.call 10 [(.var 0), (.lst [(.bin .add (.var 1) (.cst (.int 1))), (.bin .sub (.var 1) (.cst (.int 1))), (.bin .add (.var 1) (.cst (.int 1))), (.bin .sub (.var 1) (.cst (.int 1))), (.cst .non), (.bin .sub (.un .neg (.cst (.int 1))) (.var 1)), (.bin .add (.var 1) (.bin .pow (.cst (.int 10)) (.cst (.int 20)))), (.cst (.str (Str.ofString "ab"))), (.tup [])])])]⟩
def K33.f27 : Fn := ⟨(Str.ofString "_law_bent"), [(Str.ofString "draws"), (Str.ofString "thing"), (Str.ofString "k"), (Str.ofString "how"), (Str.ofString "j")], 2, [.ife (.nt (.blt (.isi [.tuple]) [(.var 1)])) [.ret (.call 26 [(.var 0), (.var 1)])] [], .ife (.cmp .eq (.blt .len [(.var 1)]) (.cst (.int 0))) [.ret (.call 10 [(.var 0), (.lst [(.tup [(.cst (.int 0))]), (.tup [(.tup [(.cst (.int 0)), (.cst (.int 1))])]), (.cst .non), (.tup [(.cst (.str (Str.ofString "ab")))])])])] [], .asg (.nm 2) (.call 9 [(.var 0), (.blt .len [(.var 1)])]), .asg (.nm 3) (.call 9 [(.var 0), (.cst (.int 8))]), .ife (.cmp .eq (.var 3) (.cst (.int 0))) [.ret (.bin .add (.slc false true (.var 1) (.cst .non) (.var 2)) (.slc true false (.var 1) (.bin .add (.var 2) (.cst (.int 1))) (.cst .non)))] [], .ife (.cmp .eq (.var 3) (.cst (.int 1))) [.ret (.bin .add (.bin .add (.slc false true (.var 1) (.cst .non) (.var 2)) (.tup [(.idx (.var 1) (.var 2))])) (.slc true false (.var 1) (.var 2) (.cst .non)))] [], .ife (.cmp .eq (.var 3) (.cst (.int 2))) [.asg (.nm 4) (.bin .mod (.blt .int [(.bin .add (.var 2) (.cst (.int 1)))]) (.blt .len [(.var 1)])), .ret (.call 13 [(.call 13 [(.var 1), (.var 2), (.idx (.var 1) (.var 4))]), (.var 4), (.idx (.var 1) (.var 2))])] [], .ret (.call 13 [(.var 1), (.var 2), (.call 27 [(.var 0), (.idx (.var 1) (.var 2))])])]⟩
def K33.f28 : Fn := ⟨(Str.ofString "_law_drawn_way"), [(Str.ofString "draws"), (Str.ofString "readings"), (Str.ofString "x"), (Str.ofString "most"), (Str.ofString "arcs"), (Str.ofString "way"), (Str.ofString "now"), (Str.ofString "k"), (Str.ofString "found"), (Str.ofString "arc")], 4, [.asg (.nm 4) (.call 20 [(.var 1)]), .asg (.nm 5) (.tup []), .asg (.nm 6) (.var 2), .fr (.nm 7) (.rng1 (.call 9 [(.var 0), (.bin .add (.var 3) (.cst (.int 1)))])) [.asg (.nm 8) (.comp [9] (.nm 9) (.seq (.var 4)) true (.cmp .eq (.idx (.var 9) (.cst (.int 0))) (.var 6)) (.var 9)), .ife (.cmp .gt (.blt .len [(.var 8)]) (.cst (.int 0))) [.asg (.nm 9) (.call 10 [(.var 0), (.var 8)]), .asg (.nm 5) (.bin .add (.var 5) (.tup [(.idx (.var 9) (.cst (.int 3)))])), .asg (.nm 6) (.idx (.var 9) (.cst (.int 1)))] []], .ret (.tup [(.var 5), (.var 6)])]⟩
def K33.f29 : Fn := ⟨(Str.ofString "_law_side_of"), [(Str.ofString "readings"), (Str.ofString "reading"), (Str.ofString "u"), (Str.ofString "k")], 3, [.asg (.nm 3) (.mth .index (.blt .list [(.var 0)]) [(.var 1)]), .ret (.tup [(.var 3), (.idx (.lst [(.un .neg (.cst (.int 1))), (.cst (.int 1))]) (.blt .int [(.cmp .eq (.idx (.var 1) (.cst (.int 0))) (.var 2))]))])]⟩
def K33.f30 : Fn := ⟨(Str.ofString "_law_side_weight"), [(Str.ofString "readings"), (Str.ofString "side"), (Str.ofString "arc")], 2, [.ret (.idx (.comp [2] (.nm 2) (.seq (.call 20 [(.var 0)])) true (.cmp .eq (.idx (.var 2) (.cst (.int 3))) (.var 1)) (.idx (.var 2) (.cst (.int 2)))) (.cst (.int 0)))]⟩
def K33.f31 : Fn := ⟨(Str.ofString "_law_asks_ways"), [(Str.ofString "draws"), (Str.ofString "marks"), (Str.ofString "readings"), (Str.ofString "turn"), (Str.ofString "x"), (Str.ofString "due"), (Str.ofString "thing"), (Str.ofString "way"), (Str.ofString "y"), (Str.ofString "goal"), (Str.ofString "side")], 3, [.fr (.nm 3) (.rng1 (.cst (.int 3))) [.asg (.nm 4) (.call 9 [(.var 0), (.var 1)]), .asg (.tup [(.nm 7), (.nm 8)]) (.call 28 [(.var 0), (.var 2), (.var 4), (.cst (.int 8))]), .asg (.nm 5) (.blt .sum [(.comp [10] (.nm 10) (.seq (.var 7)) false (.cst (.bl true)) (.call 30 [(.var 2), (.var 10)]))]), .ife (.nt (.call 11 [(.call 3 [(.var 2), (.var 7)]), (.var 5)])) [.ret (.cst (.bl false))] [], .fr (.nm 6) (.seq (.lst [(.var 7), (.call 27 [(.var 0), (.var 7)]), (.call 27 [(.var 0), (.var 7)]), (.bin .add (.var 7) (.tup [(.tup [(.blt .len [(.var 2)]), (.cst (.int 1))])])), (.call 25 [(.var 0)])])) [.fr (.nm 9) (.seq (.lst [(.var 8), (.call 9 [(.var 0), (.var 1)])])) [.ife (.nt (.call 11 [(.call 5 [(.var 1), (.var 2), (.var 4), (.var 9), (.var 6)]), (.call 24 [(.var 2), (.var 4), (.var 9), (.var 6)])])) [.ret (.cst (.bl false))] []]]], .ret (.cst (.bl true))]⟩
def K33.f32 : Fn := ⟨(Str.ofString "law"), [(Str.ofString "script"), (Str.ofString "draws"), (Str.ofString "turn"), (Str.ofString "single"), (Str.ofString "marks"), (Str.ofString "scale"), (Str.ofString "row"), (Str.ofString "ring"), (Str.ofString "kept"), (Str.ofString "readings"), (Str.ofString "sides"), (Str.ofString "k"), (Str.ofString "things"), (Str.ofString "x"), (Str.ofString "thing"), (Str.ofString "j")], 1, [.asg (.nm 1) (.call 8 [(.var 0), (.cst (.int 900))]), .fr (.nm 2) (.rng1 (.cst (.int 3))) [.asg (.nm 4) (.idx (.lst [(.bin .add (.cst (.int 2)) (.call 9 [(.var 1), (.cst (.int 11))])), (.bin .add (.cst (.int 2)) (.call 9 [(.var 1), (.cst (.int 3))])), (.cst (.int 3))]) (.var 2)), .asg (.nm 5) (.call 14 [(.var 1)]), .asg (.nm 6) (.slc false true (.call 12 [(.var 1), (.lrg false (.var 4))]) (.cst .non) (.bin .add (.cst (.int 2)) (.call 9 [(.var 1), (.bin .sub (.var 4) (.cst (.int 1)))]))), .asg (.nm 7) (.call 19 [(.var 1), (.var 6), (.call 10 [(.var 1), (.lst [(.un .neg (.cst (.int 1))), (.un .neg (.cst (.int 1))), (.cst (.int 0)), (.cst (.int 1)), (.un .neg (.cst (.int 5))), (.var 5)])]), (.var 5), (.cst (.int 1))]), .asg (.nm 8) (.call 18 [(.var 1), (.call 15 [(.var 1), (.var 4), (.var 5)]), (.call 9 [(.var 1), (.cst (.int 7))]), (.var 5)]), .asg (.nm 9) (.blt .tuple [(.call 12 [(.var 1), (.bin .add (.var 8) (.var 7))])]), .ife (.nt (.call 31 [(.var 1), (.var 4), (.var 9)])) [.ret (.cst (.bl false))] [], .asg (.nm 10) (.blt .tuple [(.comp [11] (.nm 11) (.rng1 (.blt .len [(.var 6)])) false (.cst (.bl true)) (.call 29 [(.var 9), (.idx (.var 7) (.var 11)), (.idx (.var 6) (.var 11))]))]), .asg (.nm 11) (.call 9 [(.var 1), (.blt .len [(.var 10)])]), .asg (.nm 10) (.bin .add (.slc true false (.var 10) (.var 11) (.cst .non)) (.slc false true (.var 10) (.cst .non) (.var 11))), .asg (.nm 12) (.bin .add (.lst [(.var 10), (.bin .add (.var 10) (.var 10)), (.slc true false (.var 10) (.cst (.int 1)) (.cst .non)), (.tup []), (.call 25 [(.var 1)])]) (.comp [15] (.nm 15) (.rng1 (.cst (.int 4))) false (.cst (.bl true)) (.call 27 [(.var 1), (.var 10)]))), .asg (.nm 13) (.call 9 [(.var 1), (.var 4)]), .ex (.mth .append (.var 12) [(.idx (.call 28 [(.var 1), (.var 9), (.var 13), (.cst (.int 6))]) (.cst (.int 0)))]), .fr (.nm 14) (.seq (.var 12)) [.ife (.nt (.call 11 [(.call 7 [(.var 4), (.var 9), (.var 14)]), (.call 23 [(.var 9), (.var 14)])])) [.ret (.cst (.bl false))] []]], .asg (.nm 3) (.tup [(.tup [(.cst (.int 0)), (.cst (.int 1)), (.cst (.int 4)), (.cst .non)]), (.tup [(.cst (.int 0)), (.cst (.int 1)), (.cst .non), (.cst (.int 3))])]), .ret (.an (.cmp .isN (.call 7 [(.cst (.int 2)), (.var 3), (.tup [(.tup [(.cst (.int 0)), (.un .neg (.cst (.int 1)))]), (.tup [(.cst (.int 1)), (.cst (.int 1))])])]) (.cst (.bl true))) (.cmp .isN (.call 7 [(.cst (.int 2)), (.var 3), (.tup [(.tup [(.cst (.int 0)), (.un .neg (.cst (.int 1)))]), (.tup [(.cst (.int 1)), (.cst (.int 1))]), (.tup [(.cst (.int 0)), (.un .neg (.cst (.int 1)))])])]) (.cst (.bl false))))]⟩
def K33.FT : List Fn := [f0, f1, f2, f3, f4, f5, f6, f7, f8, f9, f10, f11, f12, f13, f14, f15, f16, f17, f18, f19, f20, f21, f22, f23, f24, f25, f26, f27, f28, f29, f30, f31, f32]
def K33.topS (i : Nat) : PySem.Stmt := PySem.Challenge.pw_mapwalked_k33_ways_and_rings.main.body.getD i (.Pass ⟨0, 0, 0, 0⟩)
def K33.S : List PySem.Stmt := [1, 2, 4, 5, 6, 7, 8, 9, 11, 12, 13, 14, 15, 16, 17, 18, 19, 20, 21, 22, 23, 24, 25, 26, 27, 28, 29, 30, 31, 32, 33, 34, 35].map K33.topS
theorem K33.ck : Pe.ckTab K33.FT K33.FT K33.S = true := by decide +kernel
end
/-! k33: ways and rings. -/
namespace K33
open PySem Pe Pe.Pw
def iNum : Is FT 0 1 1 isNumB := ⟨⟨_, _, rfl, rfl⟩⟩
def iRow : Is FT 1 2 2 isRowB := ⟨⟨_, _, rfl, rfl⟩⟩
def iSe : Is FT 2 2 8 sideEndsB := ⟨⟨_, _, rfl, rfl⟩⟩
def iWw : Is FT 3 2 3 (wayWeightB 2) := ⟨⟨_, _, rfl, rfl⟩⟩
def iSd : Is FT 4 2 4 (isSideB 1 0) := ⟨⟨_, _, rfl, rfl⟩⟩
def iWay : Is FT 5 5 11 (isWayB 4 2) := ⟨⟨_, _, rfl, rfl⟩⟩
def iRi : Is FT 6 3 5 (isRingB 4 2 5) := ⟨⟨_, _, rfl, rfl⟩⟩
def iCl : Is FT 7 3 3 (isClashRB 6 3) := ⟨⟨_, _, rfl, rfl⟩⟩
def iDraws : Is FT 8 2 9 drawsB := ⟨⟨_, _, rfl, rfl⟩⟩
def iTake : Is FT 9 2 2 takeB := ⟨⟨_, _, rfl, rfl⟩⟩
def iPick : Is FT 10 2 2 (pickB 9) := ⟨⟨_, _, rfl, rfl⟩⟩
def iSame : Is FT 11 2 3 (sameB 11) := ⟨⟨_, _, rfl, rfl⟩⟩
def iShuf : Is FT 12 2 5 (shufB 9) := ⟨⟨_, _, rfl, rfl⟩⟩
def iPut : Is FT 13 3 3 putB := ⟨⟨_, _, rfl, rfl⟩⟩
def iScale : Is FT 14 1 1 (scaleB 9 10) := ⟨⟨_, _, rfl, rfl⟩⟩
def iSpots : Is FT 15 3 4 (spotsB 9) := ⟨⟨_, _, rfl, rfl⟩⟩
def iTwo : Is FT 16 2 3 (twoB 9) := ⟨⟨_, _, rfl, rfl⟩⟩
def iKept : Is FT 17 3 9 (keptB 16 10 9) := ⟨⟨_, _, rfl, rfl⟩⟩
def iKeptAll : Is FT 18 4 6 (keptAllB 17 9) := ⟨⟨_, _, rfl, rfl⟩⟩
def iRing : Is FT 19 5 13 (ringB 9) := ⟨⟨_, _, rfl, rfl⟩⟩
def iLarcs : Is FT 20 1 7 larcsB := ⟨⟨_, _, rfl, rfl⟩⟩
def iLra : Is FT 21 2 7 (lringArcsB 20) := ⟨⟨_, _, rfl, rfl⟩⟩
def iLrw : Is FT 22 2 4 (lringWeightB 21) := ⟨⟨_, _, rfl, rfl⟩⟩
def iLcl : Is FT 23 2 3 (lisClashB 22) := ⟨⟨_, _, rfl, rfl⟩⟩
def iLway : Is FT 24 4 9 (lisWayB 20) := ⟨⟨_, _, rfl, rfl⟩⟩
def iOdd : Is FT 25 1 1 (oddB 10) := ⟨⟨_, _, rfl, rfl⟩⟩
def iLeaf : Is FT 26 2 2 (leafB 10) := ⟨⟨_, _, rfl, rfl⟩⟩
def iBent : Is FT 27 2 5 (bentB 26 9 13 27 10) := ⟨⟨_, _, rfl, rfl⟩⟩
def iDw : Is FT 28 4 10 (ldrawnWayB 20 9 10) := ⟨⟨_, _, rfl, rfl⟩⟩
def iLsw : Is FT 30 2 3 (lsideWeightB 20) := ⟨⟨_, _, rfl, rfl⟩⟩
section
variable {h : Hs} {Q : PV → Hs → Prop} {n d m : Nat} {rs : List Rd}
theorem same_e {k : Nat} {x : D} (sm : Sm k x) (hk : k < d) : cal FT d 11 [.d x, .d x] h = some (.d (.bl true), h) := eq_of_wp (same_w iSame k x h _ d sm hk ⟨rfl, rfl⟩)
theorem thing_ok {x : D} (b : Be 40 6 x) : nbD x = true ∧ ∀ ps, x = .tup ps → ps.length < 900 ∧ ∀ q ∈ ps, Sm 9 q := by
  refine ⟨be_nb b, fun ps e => ?_⟩
  subst e
  exact ⟨by have := b.1; omega, fun q hq => be_sm (N := 40) (by decide) (Be.mono (Nat.le_refl _) (by decide) (b.2 q hq))⟩
theorem s_be {r : Ar} (h : r ∈ allA 0 rs) : Be 30 1 r.s := by
  obtain ⟨i, rd, _, c⟩ := mem_allA rs 0 h
  have two : ∀ a b : Int, Be 30 1 (.tup [.int a, .int b]) := fun a b => ⟨by simp, fun x hx => by
    simp only [List.mem_cons, List.not_mem_nil, or_false] at hx
    rcases hx with rfl | rfl <;> exact True.intro⟩
  rcases c with ⟨e, _⟩ | ⟨e, _⟩ <;> rw [e] <;> exact two _ _
theorem way_be {l : List Ar} {most : Nat} (hm : most ≤ 30) (ll : l.length ≤ most) (lm : ∀ r ∈ l, r ∈ allA 0 rs) : Be 30 2 (.tup (l.map Ar.s)) := by
  refine ⟨by rw [List.length_map]; omega, fun x hx => ?_⟩
  obtain ⟨r, hr, rfl⟩ := List.mem_map.mp hx
  exact s_be (lm r hr)
theorem way_e {x y : Nat} {p : D} (b : Be 40 6 p) (hl : rs.length ≤ 1000) : cal FT (d + 3) 5 [.d (.int (m : Nat)), .d (rsD rs), .d (.int (x : Nat)), .d (.int (y : Nat)), .d p] h = some (.d (.bl (wayD rs x y p)), h) :=
  isWayG_e iWay iSd iSe iRow iNum (thing_ok b).1 hl fun ps e => by have := ((thing_ok b).2 ps e).1; omega
theorem lway_e {x y : Nat} {p : D} (b : Be 40 6 p) (hl : rs.length ≤ 1000) : cal FT (d + 2) 24 [.d (rsD rs), .d (.int (x : Nat)), .d (.int (y : Nat)), .d p] h = some (.d (.bl (wayD rs x y p)), h) :=
  lisWay_e iLway iLarcs (thing_ok b).1 (fun ps e => ((thing_ok b).2 ps e).2) hl
theorem clash_e {p : D} (b : Be 40 6 p) (hl : rs.length ≤ 1000) : cal FT (d + 5) 7 [.d (.int (m : Nat)), .d (rsD rs), .d p] h = some (.d (.bl (clD rs p)), h) :=
  isClashG_e iCl iRi iWw iWay iSd iSe iRow iNum (thing_ok b).1 hl fun ps e => by have := ((thing_ok b).2 ps e).1; omega
theorem lclash_e {p : D} (b : Be 40 6 p) (hl : rs.length ≤ 1000) : cal FT (d + 4) 23 [.d (rsD rs), .d p] h = some (.d (.bl (clD rs p)), h) :=
  lisClash_e iLcl iLrw iLra iLarcs (thing_ok b).1 (fun ps e => (thing_ok b).2 ps e) hl
theorem sideOf_e {r : Rd} {u : Int} (hr : r ∈ rs) (hl : rs.length ≤ 1000) : ∃ j g : Int, ∀ h : Hs, cal FT (d + 1) 29 [.d (rsD rs), .d r.D, .d (.int u)] h = some (.d (.tup [.int j, .int g]), h) := by
  have nb : ∀ r : Rd, nbD r.D = true := fun r => by
    show nbsD [.int (r.a : Nat), .int (r.b : Nat), oi r.lo, oi r.hi] = true
    rw [nbs_iff]
    intro x hx
    simp only [List.mem_cons, List.not_mem_nil, or_false] at hx
    rcases hx with rfl | rfl | rfl | rfl
    · rfl
    · rfl
    · exact nb_oi
    · exact nb_oi
  have sm : ∀ x ∈ rs.map Rd.D, Sm 1 x := fun x hx => by
    obtain ⟨r, _, rfl⟩ := List.mem_map.mp hx
    refine ⟨(sz : 4 ≤ sizeLine), fun y hy => ?_⟩
    simp only [List.mem_cons, List.not_mem_nil, or_false] at hy
    rcases hy with rfl | rfl | rfl | rfl
    · exact True.intro
    · exact True.intro
    · exact sm_oi
    · exact sm_oi
  obtain ⟨j, hj, ej⟩ := w_indexL (k := 1) (by decide) (List.mem_map.mpr ⟨r, hr, rfl⟩) sm (nb r)
  refine ⟨j, if (r.a : Int) = u then 1 else -1, fun h => eq_of_wp ?_⟩
  rw [w_cal (t := f29) rfl rfl]
  unfold f29
  have a0 : L2.atI [D.int (r.a : Nat), .int (r.b : Nat), oi r.lo, oi r.hi] 0 = some (.int (r.a : Nat)) := rfl
  refine w_cut (fun e hh => hh = h ∧ e = [some (.d (rsD rs)), some (.d r.D), some (.d (.int u)), some (.d (.int (j : Nat)))]) ?_ ?_
  · unfold rsD
    simp only [Pe.Pw.ws, List.set_cons_zero, List.set_cons_succ, List.length_cons, List.length_nil, List.map_cons, List.map_nil, List.cons_append, List.nil_append, List.replicate_succ, List.replicate_zero, Nat.reduceSub, Nat.reduceAdd, Nat.reduceLT, true_and, and_true, if_true, Bool.false_eq_true, if_false, true_implies, false_implies, forall_const, decide_eq_true_eq, decide_eq_false_iff_not, Bool.not_eq_true', Bool.not_eq_false', reduceCtorEq, ej]
  rintro _ h ⟨rfl, rfl⟩
  unfold Rd.D
  simp only [Pe.Pw.ws, List.set_cons_zero, List.set_cons_succ, List.length_cons, List.length_nil, List.map_cons, List.map_nil, List.cons_append, List.nil_append, List.replicate_succ, List.replicate_zero, Nat.reduceSub, Nat.reduceAdd, Nat.reduceLT, true_and, and_true, if_true, Bool.false_eq_true, if_false, true_implies, false_implies, forall_const, decide_eq_true_eq, decide_eq_false_iff_not, Bool.not_eq_true', Bool.not_eq_false', reduceCtorEq, w_ixT a0, mkTup_2]
  refine ⟨sz, ?_⟩
  have pk : L2.atI [PV.d (.int (-1)), .d (.int 1)] (if (r.a : Int) = u then 1 else 0) = some (.d (.int (if (r.a : Int) = u then 1 else -1))) := by
    by_cases c : (r.a : Int) = u
    · rw [if_pos c, if_pos c]; rfl
    · rw [if_neg c, if_neg c]; rfl
  rw [w_ixL pk]
  refine ⟨sz, ?_⟩
  rw [mkTup_2, lv_d, take_self]
  exact ⟨rfl, rfl⟩
theorem asksWays_w (m0 : 0 < m) (hl : rs.length ≤ 1000) (a : Dr n h) (q : ∀ h1, Dn n h h1 → Q (.d (.bl true)) h1) : Wp (cal FT (d + 14) 31 [.ref n, .d (.int (m : Nat)), .d (rsD rs)]) h Q := by
  rw [w_cal (t := f31) rfl rfl]
  unfold f31
  have hz : sizeLine = 2 ^ 24 := rfl
  have hn := a.lt
  let E : Option PV → Option PV → Option PV → Option PV → Option PV → Option PV → Option PV → Option PV → Pe.Env := fun e3 e4 e5 e6 e7 e8 e9 e10 => [some (.ref n), some (.d (.int (m : Nat))), some (.d (.tup (rs.map Rd.D))), e3, e4, e5, e6, e7, e8, e9, e10]
  refine w_cut (fun e hh => ∃ X gs, Dn n h X ∧ hh = X ++ gs) ?_ ?_
  · unfold rsD
    simp only [Pe.Pw.ws, List.set_cons_zero, List.set_cons_succ, List.length_cons, List.length_nil, List.map_cons, List.map_nil, List.cons_append, List.nil_append, List.replicate_succ, List.replicate_zero, Nat.reduceSub, Nat.reduceAdd, Nat.reduceLT, true_and, and_true, if_true, Bool.false_eq_true, if_false, true_implies, false_implies, forall_const, decide_eq_true_eq, decide_eq_false_iff_not, Bool.not_eq_true', Bool.not_eq_false', reduceCtorEq]
    refine ⟨by omega, ?_⟩
    rw [show ((3 : Int) - 0).toNat = 3 from rfl]
    refine w_forN (fun i e hh => ∃ e3 e4 e5 e6 e7 e8 e9 e10, e = E e3 e4 e5 e6 e7 e8 e9 e10 ∧ ∃ X gs, Dn n h X ∧ hh = X ++ gs) ⟨_, _, _, _, _, _, _, _, rfl, h, [], .refl a, by rw [List.append_nil]⟩ (fun i e hh hi p => ?_) fun e hh p => by obtain ⟨_, _, _, _, _, _, _, _, _, q⟩ := p; exact q
    obtain ⟨e3, e4, e5, e6, e7, e8, e9, e10, rfl, X, gs, b, rfl⟩ := p
    refine w_nm.mpr ⟨(by decide : 3 < 11), ?_⟩
    rw [Int.zero_add, conv_d]
    refine w_cut (fun e hh => ∃ (x : Nat) (X : Hs), x < m ∧ Dn n h X ∧ hh = X ++ gs ∧ e = E (some (.d (.int (i : Nat)))) (some (.d (.int (x : Nat)))) e5 e6 e7 e8 e9 e10) ?_ ?_
    · simp only [Pe.Pw.ws, List.set_cons_zero, List.set_cons_succ, List.length_cons, List.length_nil, List.map_cons, List.map_nil, List.cons_append, List.nil_append, List.replicate_succ, List.replicate_zero, Nat.reduceSub, Nat.reduceAdd, Nat.reduceLT, true_and, and_true, if_true, Bool.false_eq_true, if_false, true_implies, false_implies, forall_const, decide_eq_true_eq, decide_eq_false_iff_not, Bool.not_eq_true', Bool.not_eq_false', reduceCtorEq, E]
      refine take_w iTake (by omega) (b.dr a).app fun r g r0 r1 b1 => ?_
      obtain ⟨X2, rfl, c2⟩ := b1.split (by have := b.len; omega)
      obtain ⟨x, rfl⟩ := Int.eq_ofNat_of_zero_le r0
      simp only [Pe.Pw.ws, List.set_cons_zero, List.set_cons_succ, List.length_cons, List.length_nil, List.map_cons, List.map_nil, List.cons_append, List.nil_append, List.replicate_succ, List.replicate_zero, Nat.reduceSub, Nat.reduceAdd, Nat.reduceLT, true_and, and_true, if_true, Bool.false_eq_true, if_false, true_implies, false_implies, forall_const, decide_eq_true_eq, decide_eq_false_iff_not, Bool.not_eq_true', Bool.not_eq_false', reduceCtorEq]
      exact ⟨x, X2, by omega, b.trans c2, rfl, rfl⟩
    clear b X
    rintro _ _ ⟨x, X, hx, b, rfl, rfl⟩
    refine w_cut (fun e hh => ∃ (l : List Ar) (y : Nat) (X : Hs), (∀ r ∈ l, r ∈ allA 0 rs) ∧ l.length ≤ 8 ∧ Dn n h X ∧ hh = X ++ gs ∧ e = E (some (.d (.int (i : Nat)))) (some (.d (.int (x : Nat)))) e5 e6 (some (.d (.tup (l.map Ar.s)))) (some (.d (.int (y : Nat)))) e9 e10) ?_ ?_
    · have dw := fun (Q : PV → Hs → Prop) (q) => ldrawnWay_w (h := X ++ gs) (Q := Q) (n := n) (d := d + 10) (rs := rs) (x := x) (most := 8) iDw iLarcs iTake iPick hl (by omega) (b.dr a).app q
      unfold rsD at dw
      simp only [Pe.Pw.ws, List.set_cons_zero, List.set_cons_succ, List.length_cons, List.length_nil, List.map_cons, List.map_nil, List.cons_append, List.nil_append, List.replicate_succ, List.replicate_zero, Nat.reduceSub, Nat.reduceAdd, Nat.reduceLT, true_and, and_true, if_true, Bool.false_eq_true, if_false, true_implies, false_implies, forall_const, decide_eq_true_eq, decide_eq_false_iff_not, Bool.not_eq_true', Bool.not_eq_false', reduceCtorEq, E]
      refine dw _ fun l y g lm ll b1 => ?_
      obtain ⟨X2, rfl, c2⟩ := b1.split (by have := b.len; omega)
      simp only [Pe.Pw.ws, List.set_cons_zero, List.set_cons_succ, List.length_cons, List.length_nil, List.map_cons, List.map_nil, List.cons_append, List.nil_append, List.replicate_succ, List.replicate_zero, Nat.reduceSub, Nat.reduceAdd, Nat.reduceLT, true_and, and_true, if_true, Bool.false_eq_true, if_false, true_implies, false_implies, forall_const, decide_eq_true_eq, decide_eq_false_iff_not, Bool.not_eq_true', Bool.not_eq_false', reduceCtorEq]
      exact ⟨l, y, X2, lm, ll, b.trans c2, rfl, rfl⟩
    clear b X
    rintro _ _ ⟨l, y, X, lm, ll, b, rfl, rfl⟩
    have wb := way_be (most := 8) (by omega) ll lm
    generalize hG : X ++ gs = G
    refine w_cut (fun e hh => hh = G ∧ ∃ e10, e = E (some (.d (.int (i : Nat)))) (some (.d (.int (x : Nat)))) (some (.d (.int (l.map Ar.w).sum))) e6 (some (.d (.tup (l.map Ar.s)))) (some (.d (.int (y : Nat)))) e9 e10) ?_ ?_
    · simp only [Pe.Pw.ws, List.set_cons_zero, List.set_cons_succ, List.length_cons, List.length_nil, List.map_cons, List.map_nil, List.cons_append, List.nil_append, List.replicate_succ, List.replicate_zero, Nat.reduceSub, Nat.reduceAdd, Nat.reduceLT, true_and, and_true, if_true, Bool.false_eq_true, if_false, true_implies, false_implies, forall_const, decide_eq_true_eq, decide_eq_false_iff_not, Bool.not_eq_true', Bool.not_eq_false', reduceCtorEq, E]
      refine w_clx l (fun r => .d r.s) (fun r => .d (.int r.w)) (by rw [show (l.map fun r => PV.d r.s) = (l.map Ar.s).map PV.d by rw [List.map_map]; rfl]; exact its_imm) (by omega) (fun r hr => ?_) ?_
      · have e1 := lsideWeight_e (h := G) (d := d + 11) (rs := rs) iLsw iLarcs (lm r hr) hl
        unfold rsD at e1
        simp only [Pe.Pw.ws, List.set_cons_zero, List.set_cons_succ, List.length_cons, List.length_nil, List.map_cons, List.map_nil, List.cons_append, List.nil_append, List.replicate_succ, List.replicate_zero, Nat.reduceSub, Nat.reduceAdd, Nat.reduceLT, true_and, and_true, if_true, Bool.false_eq_true, if_false, true_implies, false_implies, forall_const, decide_eq_true_eq, decide_eq_false_iff_not, Bool.not_eq_true', Bool.not_eq_false', reduceCtorEq, w_iff e1]
      · rw [show (l.map fun r => PV.d (.int r.w)) = (l.map Ar.w).map fun b => PV.d (.int b) by rw [List.map_map]; rfl]
        simp only [Pe.Pw.ws, List.set_cons_zero, List.set_cons_succ, List.length_cons, List.length_nil, List.map_cons, List.map_nil, List.cons_append, List.nil_append, List.replicate_succ, List.replicate_zero, Nat.reduceSub, Nat.reduceAdd, Nat.reduceLT, true_and, and_true, if_true, Bool.false_eq_true, if_false, true_implies, false_implies, forall_const, decide_eq_true_eq, decide_eq_false_iff_not, Bool.not_eq_true', Bool.not_eq_false', reduceCtorEq]
        exact ⟨_, rfl⟩
    rintro _ G ⟨rfl, e10, rfl⟩
    refine w_cut (fun e hh => hh = G ∧ e = E (some (.d (.int (i : Nat)))) (some (.d (.int (x : Nat)))) (some (.d (.int (l.map Ar.w).sum))) e6 (some (.d (.tup (l.map Ar.s)))) (some (.d (.int (y : Nat)))) e9 e10) ?_ ?_
    · have e1 := wayWeight_e (h := G) (d := d + 11) (rs := rs) iWw iSe lm (by omega)
      unfold rsD at e1
      have e2 := same_e (h := G) (d := d + 13) (k := 0) (x := .int (l.map Ar.w).sum) True.intro (by omega)
      simp only [Pe.Pw.ws, List.set_cons_zero, List.set_cons_succ, List.length_cons, List.length_nil, List.map_cons, List.map_nil, List.cons_append, List.nil_append, List.replicate_succ, List.replicate_zero, Nat.reduceSub, Nat.reduceAdd, Nat.reduceLT, true_and, and_true, if_true, Bool.false_eq_true, if_false, true_implies, false_implies, forall_const, decide_eq_true_eq, decide_eq_false_iff_not, Bool.not_eq_true', Bool.not_eq_false', reduceCtorEq, E, w_iff e1, w_iff e2, Bool.not_true]
    rintro _ G ⟨rfl, rfl⟩
    subst hG
    have up : ∀ {N k : Nat} {x : D}, N ≤ 40 → k ≤ 6 → Be N k x → Be 40 6 x := fun h1 h2 b => Be.mono h1 h2 b
    have xl := b.len
    simp only [Pe.Pw.ws, List.set_cons_zero, List.set_cons_succ, List.length_cons, List.length_nil, List.map_cons, List.map_nil, List.cons_append, List.nil_append, List.replicate_succ, List.replicate_zero, Nat.reduceSub, Nat.reduceAdd, Nat.reduceLT, true_and, and_true, if_true, Bool.false_eq_true, if_false, true_implies, false_implies, forall_const, decide_eq_true_eq, decide_eq_false_iff_not, Bool.not_eq_true', Bool.not_eq_false', reduceCtorEq, E, mkTup_1, mkTup_2, List.length_map]
    refine bent_e (d := d + 7) iBent iLeaf iPut iTake iPick (N := 30) (by omega) (by omega) 2 _ _ _ wb (b.dr a).app fun t1 g ht1 b1 => ?_
    obtain ⟨X2, rfl, c2⟩ := b1.split (by omega)
    have b2 := b.trans c2
    have x2 := b2.len
    refine bent_e (d := d + 7) iBent iLeaf iPut iTake iPick (N := 30) (by omega) (by omega) 2 _ _ _ wb (b2.dr a).app fun t2 g ht2 b1 => ?_
    obtain ⟨X3, rfl, c3⟩ := b1.split (by omega)
    have b3 := b2.trans c3
    have x3 := b3.len
    refine ⟨sz, sz, by omega, ?_⟩
    refine odd_e (d := d + 10) iOdd iTake iPick (b3.dr a).app fun t3 g ht3 b1 => ?_
    obtain ⟨X4, rfl, c4⟩ := b1.split (by omega)
    have b4 := b3.trans c4
    have x4 := b4.len
    refine ⟨sz, ?_⟩
    let ts : List D := [.tup (l.map Ar.s), t1, t2, .tup (l.map Ar.s ++ [.tup [.int (rs.length : Nat), .int 1]]), t3]
    have tb : ∀ t ∈ ts, Be 40 6 t := fun t ht => by
      simp only [ts, List.mem_cons, List.not_mem_nil, or_false] at ht
      rcases ht with rfl | rfl | rfl | rfl | rfl
      · exact up (by omega) (by omega) wb
      · exact up (by omega) (by omega) ht1
      · exact up (by omega) (by omega) ht2
      · refine up (N := 30) (k := 2) (by omega) (by omega) ⟨by rw [List.length_append, List.length_map, List.length_singleton]; omega, fun z hz => ?_⟩
        rcases List.mem_append.mp hz with hz | hz
        · exact wb.2 z hz
        · rw [List.mem_singleton.mp hz]
          refine ⟨by simp, fun y hy => ?_⟩
          simp only [List.mem_cons, List.not_mem_nil, or_false] at hy
          rcases hy with rfl | rfl <;> exact True.intro
      · exact up (by omega) (by omega) ht3
    rw [show PV.tl [PV.d (.tup (l.map Ar.s)), .d t1, .d t2, .d (.tup (l.map Ar.s ++ [.tup [.int (rs.length : Nat), .int 1]])), .d t3] = .tl (ts.map .d) from rfl, w_seqL]
    clear_value ts
    refine w_for (ts.map .d) (fun i2 e hh => ∃ X e3 e6 e9, Dn n h X ∧ hh = X ++ gs ∧ e = E e3 (some (.d (.int (x : Nat)))) (some (.d (.int (l.map Ar.w).sum))) e6 (some (.d (.tup (l.map Ar.s)))) (some (.d (.int (y : Nat)))) e9 e10) ⟨X4, _, _, _, b4, rfl, rfl⟩ (fun _ _ _ _ _ => its_imm) (fun i2 e hh v ev p => ?_) fun e hh p => ?_
    rotate_left
    · obtain ⟨X, e3, e6, e9, b, rfl, rfl⟩ := p
      simp only [Pe.Pw.ws, List.set_cons_zero, List.set_cons_succ, List.length_cons, List.length_nil, List.map_cons, List.map_nil, List.cons_append, List.nil_append, List.replicate_succ, List.replicate_zero, Nat.reduceSub, Nat.reduceAdd, Nat.reduceLT, true_and, and_true, if_true, Bool.false_eq_true, if_false, true_implies, false_implies, forall_const, decide_eq_true_eq, decide_eq_false_iff_not, Bool.not_eq_true', Bool.not_eq_false', reduceCtorEq, E]
      exact ⟨_, _, _, _, _, _, _, _, rfl, X, gs, b, rfl⟩
    clear b b1 b2 b3 b4 c2 c3 c4
    obtain ⟨X, e3, e6, e9, b, rfl, rfl⟩ := p
    have hi2 := (List.getElem?_eq_some_iff.mp ev).1
    rw [List.length_map] at hi2
    rw [List.getElem?_map, List.getElem?_eq_getElem hi2] at ev
    cases ev
    have tt := tb _ (List.getElem_mem hi2)
    generalize ts[i2] = t at *
    have xl := b.len
    refine w_nm.mpr ⟨(by decide : 6 < 11), ?_⟩
    rw [conv_d]
    simp only [Pe.Pw.ws, List.set_cons_zero, List.set_cons_succ, List.length_cons, List.length_nil, List.map_cons, List.map_nil, List.cons_append, List.nil_append, List.replicate_succ, List.replicate_zero, Nat.reduceSub, Nat.reduceAdd, Nat.reduceLT, true_and, and_true, if_true, Bool.false_eq_true, if_false, true_implies, false_implies, forall_const, decide_eq_true_eq, decide_eq_false_iff_not, Bool.not_eq_true', Bool.not_eq_false', reduceCtorEq, E]
    refine take_w iTake (by omega) (b.dr a).app fun r g r0 r1 b1 => ?_
    obtain ⟨X2, rfl, c2⟩ := b1.split (by omega)
    have b2 := b.trans c2
    obtain ⟨z, rfl⟩ := Int.eq_ofNat_of_zero_le r0
    refine ⟨sz, ?_⟩
    rw [show PV.tl [PV.d (.int (y : Nat)), .d (.int (z : Nat))] = .tl (([y, z].map fun k : Nat => D.int (k : Nat)).map .d) from rfl, w_seqL]
    refine w_forT [y, z] (fun k : Nat => D.int (k : Nat)) (fun i3 e hh => hh = X2 ++ gs ∧ ∃ e9, e = E e3 (some (.d (.int (x : Nat)))) (some (.d (.int (l.map Ar.w).sum))) (some (.d t)) (some (.d (.tup (l.map Ar.s)))) (some (.d (.int (y : Nat)))) e9 e10) ⟨rfl, _, rfl⟩ (fun i3 e hh k ek p => ?_) fun e hh p => ?_
    · obtain ⟨rfl, e9, rfl⟩ := p
      refine w_nm.mpr ⟨(by decide : 9 < 11), ?_⟩
      rw [conv_d]
      have e1 := way_e (h := X2 ++ gs) (d := d + 10) (m := m) (rs := rs) (x := x) (y := k) tt hl
      have e2 := lway_e (h := X2 ++ gs) (d := d + 11) (rs := rs) (x := x) (y := k) tt hl
      unfold rsD at e1 e2
      simp only [Pe.Pw.ws, List.set_cons_zero, List.set_cons_succ, List.length_cons, List.length_nil, List.map_cons, List.map_nil, List.cons_append, List.nil_append, List.replicate_succ, List.replicate_zero, Nat.reduceSub, Nat.reduceAdd, Nat.reduceLT, true_and, and_true, if_true, Bool.false_eq_true, if_false, true_implies, false_implies, forall_const, decide_eq_true_eq, decide_eq_false_iff_not, Bool.not_eq_true', Bool.not_eq_false', reduceCtorEq, E, w_iff e1, w_iff e2, w_iff (same_e (h := X2 ++ gs) (d := d + 13) (k := 0) (x := .bl (wayD rs x k t)) True.intro (by omega)), Bool.not_true]
      exact ⟨_, rfl⟩
    · obtain ⟨rfl, e9, rfl⟩ := p
      simp only [Pe.Pw.ws, List.set_cons_zero, List.set_cons_succ, List.length_cons, List.length_nil, List.map_cons, List.map_nil, List.cons_append, List.nil_append, List.replicate_succ, List.replicate_zero, Nat.reduceSub, Nat.reduceAdd, Nat.reduceLT, true_and, and_true, if_true, Bool.false_eq_true, if_false, true_implies, false_implies, forall_const, decide_eq_true_eq, decide_eq_false_iff_not, Bool.not_eq_true', Bool.not_eq_false', reduceCtorEq, E]
      exact ⟨X2, _, _, _, b2, rfl, rfl⟩
  rintro e _ ⟨X, gs, b, rfl⟩
  simp only [Pe.Pw.ws, List.set_cons_zero, List.set_cons_succ, List.length_cons, List.length_nil, List.map_cons, List.map_nil, List.cons_append, List.nil_append, List.replicate_succ, List.replicate_zero, Nat.reduceSub, Nat.reduceAdd, Nat.reduceLT, true_and, and_true, if_true, Bool.false_eq_true, if_false, true_implies, false_implies, forall_const, decide_eq_true_eq, decide_eq_false_iff_not, Bool.not_eq_true', Bool.not_eq_false', reduceCtorEq]
  rw [b.take]
  exact q X b
theorem w_addRR {n k : Nat} {a b : List PV} (e : h[n]? = some (.lst a)) (e2 : h[k]? = some (.lst b)) : Wp (binV .add (.ref n) (.ref k)) h Q ↔ (a.length + b.length ≤ sizeLine) ∧ Q (.tl (a ++ b)) h := by
  refine wp_cond ?_
  show (match mutOf (.ref n) h, mutOf (.ref k) h with
    | some a, some b => if a.length + b.length ≤ sizeLine then some (PV.tl (a ++ b), h) else none
    | _, _ => none) = _
  have e1 : mutOf (.ref n) h = some a := by
    show (match h[n]? with
      | some (.lst xs) => some xs
      | none => none) = _
    rw [e]
  have e3 : mutOf (.ref k) h = some b := by
    show (match h[k]? with
      | some (.lst xs) => some xs
      | none => none) = _
    rw [e2]
  rw [e1, e3]
def sgl : List Rd := [⟨0, 1, some 4, none⟩, ⟨0, 1, none, some 3⟩]
def two : D := .tup [.tup [.int 0, .int (-1)], .tup [.int 1, .int 1]]
def three : D := .tup [.tup [.int 0, .int (-1)], .tup [.int 1, .int 1], .tup [.int 0, .int (-1)]]
theorem sgl_two : clD sgl two = true := by decide +kernel
theorem sgl_three : clD sgl three = false := by decide +kernel
theorem two_be : Be 40 6 two ∧ Be 40 6 three := by
  constructor <;> simp [two, three, Be]
theorem holds : ∀ ns : List Int, ns.length ≤ 63 → ∃ h, Pe.call FT 200 32 [.fl (ns.map .int)] [] = some (.d (.bl true), h) := by
  intro ns hns
  rw [← cal_eq]
  have w : Wp (cal FT (199 + 1) 32 [.fl (ns.map .int)]) [] fun v _ => v = .d (.bl true) := by
    rw [w_cal (t := f32) rfl rfl]
    unfold f32
    have hz : sizeLine = 2 ^ 24 := rfl
    refine w_cut (fun e h1 => e = [some (.fl (ns.map D.int)), some (.ref 0), none, none, none, none, none, none, none, none, none, none, none, none, none, none] ∧ Dr 0 h1) ?_ ?_
    · simp only [Pe.Pw.ws, List.set_cons_zero, List.set_cons_succ, List.length_cons, List.length_nil, List.map_cons, List.map_nil, List.cons_append, List.nil_append, List.replicate_succ, List.replicate_zero, Nat.reduceSub, Nat.reduceAdd, Nat.reduceLT, true_and, and_true, if_true, Bool.false_eq_true, if_false, true_implies, false_implies, forall_const, decide_eq_true_eq, decide_eq_false_iff_not, Bool.not_eq_true', Bool.not_eq_false', reduceCtorEq]
      refine draws_w iDraws (many := 900) hns (by omega) fun ds => ?_
      rw [mapI, conv_tld]
      exact ⟨rfl, ds, by rw [← mapI]; rfl⟩
    rintro _ h ⟨rfl, a⟩
    refine w_cut (fun e h1 => ∃ e2 e4 e5 e6 e7 e8 e9 e10 e11 e12 e13 e14 e15, e = [some (.fl (ns.map D.int)), some (.ref 0), e2, none, e4, e5, e6, e7, e8, e9, e10, e11, e12, e13, e14, e15] ∧ Dr 0 h1) ?_ ?_
    · simp only [Pe.Pw.ws, List.set_cons_zero, List.set_cons_succ, List.length_cons, List.length_nil, List.map_cons, List.map_nil, List.cons_append, List.nil_append, List.replicate_succ, List.replicate_zero, Nat.reduceSub, Nat.reduceAdd, Nat.reduceLT, true_and, and_true, if_true, Bool.false_eq_true, if_false, true_implies, false_implies, forall_const, decide_eq_true_eq, decide_eq_false_iff_not, Bool.not_eq_true', Bool.not_eq_false', reduceCtorEq]
      refine ⟨by omega, ?_⟩
      rw [show ((3 : Int) - 0).toNat = 3 from rfl]
      refine w_forN (fun i e h1 => ∃ e2 e4 e5 e6 e7 e8 e9 e10 e11 e12 e13 e14 e15, e = [some (.fl (ns.map D.int)), some (.ref 0), e2, none, e4, e5, e6, e7, e8, e9, e10, e11, e12, e13, e14, e15] ∧ Dr 0 h1) ⟨_, _, _, _, _, _, _, _, _, _, _, _, _, rfl, a⟩ (fun i e h hi p => ?_) fun e h p => p
      clear a
      obtain ⟨e2, e4, e5, e6, e7, e8, e9, e10, e11, e12, e13, e14, e15, rfl, a⟩ := p
      refine w_nm.mpr ⟨(by decide : 2 < 16), ?_⟩
      rw [Int.zero_add, conv_d]
      let E : Option PV → Option PV → Option PV → Option PV → Option PV → Option PV → Option PV → Option PV → Option PV → Option PV → Option PV → Option PV → Pe.Env := fun e4 e5 e6 e7 e8 e9 e10 e11 e12 e13 e14 e15 => [some (.fl (ns.map D.int)), some (.ref 0), some (.d (.int (i : Nat))), none, e4, e5, e6, e7, e8, e9, e10, e11, e12, e13, e14, e15]
      refine w_cut (fun e h1 => ∃ m : Nat, 2 ≤ m ∧ m ≤ 12 ∧ e = E (some (.d (.int (m : Nat)))) e5 e6 e7 e8 e9 e10 e11 e12 e13 e14 e15 ∧ Dr 0 h1) ?_ ?_
      · simp only [Pe.Pw.ws, List.set_cons_zero, List.set_cons_succ, List.length_cons, List.length_nil, List.map_cons, List.map_nil, List.cons_append, List.nil_append, List.replicate_succ, List.replicate_zero, Nat.reduceSub, Nat.reduceAdd, Nat.reduceLT, true_and, and_true, if_true, Bool.false_eq_true, if_false, true_implies, false_implies, forall_const, decide_eq_true_eq, decide_eq_false_iff_not, Bool.not_eq_true', Bool.not_eq_false', reduceCtorEq]
        refine take_w iTake (by decide) a fun r1 h1 r10 r11 b1 => ?_
        simp only [Pe.Pw.ws, List.set_cons_zero, List.set_cons_succ, List.length_cons, List.length_nil, List.map_cons, List.map_nil, List.cons_append, List.nil_append, List.replicate_succ, List.replicate_zero, Nat.reduceSub, Nat.reduceAdd, Nat.reduceLT, true_and, and_true, if_true, Bool.false_eq_true, if_false, true_implies, false_implies, forall_const, decide_eq_true_eq, decide_eq_false_iff_not, Bool.not_eq_true', Bool.not_eq_false', reduceCtorEq]
        refine take_w iTake (by decide) (b1.dr a) fun r2 h2 r20 r21 b2 => ?_
        have b2 := b1.trans b2
        simp only [Pe.Pw.ws, List.set_cons_zero, List.set_cons_succ, List.length_cons, List.length_nil, List.map_cons, List.map_nil, List.cons_append, List.nil_append, List.replicate_succ, List.replicate_zero, Nat.reduceSub, Nat.reduceAdd, Nat.reduceLT, true_and, and_true, if_true, Bool.false_eq_true, if_false, true_implies, false_implies, forall_const, decide_eq_true_eq, decide_eq_false_iff_not, Bool.not_eq_true', Bool.not_eq_false', reduceCtorEq]
        refine ⟨sz, ?_⟩
        obtain ⟨m, em, m0, m1⟩ : ∃ m : Nat, L2.atI [PV.d (.int (2 + r1)), .d (.int (2 + r2)), .d (.int 3)] (i : Int) = some (.d (.int m)) ∧ 2 ≤ m ∧ m ≤ 12 := by
          have : i = 0 ∨ i = 1 ∨ i = 2 := by omega
          rcases this with rfl | rfl | rfl
          · exact ⟨(2 + r1).toNat, by rw [Int.toNat_of_nonneg (by omega)]; rfl, by omega, by omega⟩
          · exact ⟨(2 + r2).toNat, by rw [Int.toNat_of_nonneg (by omega)]; rfl, by omega, by omega⟩
          · exact ⟨3, rfl, by omega, by omega⟩
        simp only [Pe.Pw.ws, List.set_cons_zero, List.set_cons_succ, List.length_cons, List.length_nil, List.map_cons, List.map_nil, List.cons_append, List.nil_append, List.replicate_succ, List.replicate_zero, Nat.reduceSub, Nat.reduceAdd, Nat.reduceLT, true_and, and_true, if_true, Bool.false_eq_true, if_false, true_implies, false_implies, forall_const, decide_eq_true_eq, decide_eq_false_iff_not, Bool.not_eq_true', Bool.not_eq_false', reduceCtorEq, w_ixL em]
        exact ⟨m, m0, m1, rfl, b2.dr a⟩
      clear a h
      rintro _ h ⟨m, m0, m1, rfl, a⟩
      refine w_cut (fun e h1 => ∃ s : Int, e = E (some (.d (.int (m : Nat)))) (some (.d (.int s))) e6 e7 e8 e9 e10 e11 e12 e13 e14 e15 ∧ Dr 0 h1) ?_ ?_
      · simp only [Pe.Pw.ws, List.set_cons_zero, List.set_cons_succ, List.length_cons, List.length_nil, List.map_cons, List.map_nil, List.cons_append, List.nil_append, List.replicate_succ, List.replicate_zero, Nat.reduceSub, Nat.reduceAdd, Nat.reduceLT, true_and, and_true, if_true, Bool.false_eq_true, if_false, true_implies, false_implies, forall_const, decide_eq_true_eq, decide_eq_false_iff_not, Bool.not_eq_true', Bool.not_eq_false', reduceCtorEq, E]
        refine scale_w (d := 196) iScale iTake iPick a fun s g b => ?_
        simp only [Pe.Pw.ws, List.set_cons_zero, List.set_cons_succ, List.length_cons, List.length_nil, List.map_cons, List.map_nil, List.cons_append, List.nil_append, List.replicate_succ, List.replicate_zero, Nat.reduceSub, Nat.reduceAdd, Nat.reduceLT, true_and, and_true, if_true, Bool.false_eq_true, if_false, true_implies, false_implies, forall_const, decide_eq_true_eq, decide_eq_false_iff_not, Bool.not_eq_true', Bool.not_eq_false', reduceCtorEq]
        exact ⟨s, rfl, b.dr a⟩
      clear a h
      rintro _ h ⟨s, rfl, a⟩
      -- the row of marks
      refine w_cut (fun e h1 => ∃ (us : List Nat) (c6 : Nat), 2 ≤ us.length ∧ us.length ≤ m ∧ (∀ u ∈ us, u < m) ∧ c6 ≠ 0 ∧ h1[c6]? = some (.lst ((us.map fun u => D.int (u : Nat)).map .d)) ∧ e = E (some (.d (.int (m : Nat)))) (some (.d (.int s))) (some (.ref c6)) e7 e8 e9 e10 e11 e12 e13 e14 e15 ∧ Dr 0 h1) ?_ ?_
      · simp only [Pe.Pw.ws, List.set_cons_zero, List.set_cons_succ, List.length_cons, List.length_nil, List.map_cons, List.map_nil, List.cons_append, List.nil_append, List.replicate_succ, List.replicate_zero, Nat.reduceSub, Nat.reduceAdd, Nat.reduceLT, true_and, and_true, if_true, Bool.false_eq_true, if_false, true_implies, false_implies, forall_const, decide_eq_true_eq, decide_eq_false_iff_not, Bool.not_eq_true', Bool.not_eq_false', reduceCtorEq, E, w_lrg, w_lrgF (show m ≤ 16777216 by omega)]
        refine shuf_w iShuf iTake (by rw [List.length_map, List.length_range]; omega) a fun ys g2 pm b2 => ?_
        obtain ⟨us, pu, rfl⟩ := perm_map pm rfl
        have ul : us.length = m := by rw [pu.length_eq, List.length_range]
        have uu : ∀ u ∈ us, u < m := fun u hu => List.mem_range.mp (pu.mem_iff.mp hu)
        refine take_w iTake (by omega) (b2.dr a) fun r g1 r0 r1 b1 => ?_
        obtain ⟨r, rfl⟩ := Int.eq_ofNat_of_zero_le r0
        have b3 := b2.trans b1
        have lt := (b3.dr a).lt
        simp only [Pe.Pw.ws, List.set_cons_zero, List.set_cons_succ, List.length_cons, List.length_nil, List.map_cons, List.map_nil, List.cons_append, List.nil_append, List.replicate_succ, List.replicate_zero, Nat.reduceSub, Nat.reduceAdd, Nat.reduceLT, true_and, and_true, if_true, Bool.false_eq_true, if_false, true_implies, false_implies, forall_const, decide_eq_true_eq, decide_eq_false_iff_not, Bool.not_eq_true', Bool.not_eq_false', reduceCtorEq, w_slL]
        rw [show (2 + (r : Int)) = ((2 + r : Nat) : Int) by omega, cut_hi, ← List.map_take, ← List.map_take, conv_tld]
        exact ⟨us.take (2 + r), g1.length, by rw [List.length_take]; omega, by rw [List.length_take]; omega, fun u hu => uu u (List.mem_of_mem_take hu), by omega, List.getElem?_concat_length .., rfl, (b3.dr a).app⟩
      clear a h
      rintro _ h ⟨us, c6, u2, um, uu, c60, e6', rfl, a⟩
      -- the ring
      refine w_cut (fun e h1 => ∃ (rr : List Rd) (c7 : Nat), rr.length = us.length ∧ RdsIn m rr ∧ c7 ≠ 0 ∧ h1[c6]? = some (.lst ((us.map fun u => D.int (u : Nat)).map .d)) ∧ h1[c7]? = some (.lst ((rr.map Rd.D).map .d)) ∧ e = E (some (.d (.int (m : Nat)))) (some (.d (.int s))) (some (.ref c6)) (some (.ref c7)) e8 e9 e10 e11 e12 e13 e14 e15 ∧ Dr 0 h1) ?_ ?_
      · simp only [Pe.Pw.ws, List.set_cons_zero, List.set_cons_succ, List.length_cons, List.length_nil, List.map_cons, List.map_nil, List.cons_append, List.nil_append, List.replicate_succ, List.replicate_zero, Nat.reduceSub, Nat.reduceAdd, Nat.reduceLT, true_and, and_true, if_true, Bool.false_eq_true, if_false, true_implies, false_implies, forall_const, decide_eq_true_eq, decide_eq_false_iff_not, Bool.not_eq_true', Bool.not_eq_false', reduceCtorEq, E]
        refine ⟨sz, ?_⟩
        refine pickI_w iPick iTake [-1, -1, 0, 1, -5, s] rfl (by simp) a fun t g1 ht b1 => ?_
        refine ring_w (d := 196) iRing iTake (by rw [b1.get c60]; exact e6') c60 (by omega) (by omega) uu (b1.dr a) fun rr g2 rl rin b2 => ?_
        have b2 := b1.trans b2
        have lt := (b2.dr a).lt
        have cl := (List.getElem?_eq_some_iff.mp e6').1
        rw [conv_tld]
        exact ⟨rr, g2.length, rl, rin, by omega, by rw [List.getElem?_append_left (by rw [b2.len]; exact cl), b2.get c60]; exact e6', List.getElem?_concat_length .., rfl, (b2.dr a).app⟩
      clear a e6' h
      rintro _ h ⟨rr, c7, rl, rin, c70, e6', e7', rfl, a⟩
      refine w_cut (fun e h1 => ∃ (rk : List Rd) (c8 : Nat), rk.length ≤ 6 ∧ RdsIn m rk ∧ c8 ≠ 0 ∧ h1[c6]? = some (.lst ((us.map fun u => D.int (u : Nat)).map .d)) ∧ h1[c7]? = some (.lst ((rr.map Rd.D).map .d)) ∧ h1[c8]? = some (.lst ((rk.map Rd.D).map .d)) ∧ e = E (some (.d (.int (m : Nat)))) (some (.d (.int s))) (some (.ref c6)) (some (.ref c7)) (some (.ref c8)) e9 e10 e11 e12 e13 e14 e15 ∧ Dr 0 h1) ?_ ?_
      · simp only [Pe.Pw.ws, List.set_cons_zero, List.set_cons_succ, List.length_cons, List.length_nil, List.map_cons, List.map_nil, List.cons_append, List.nil_append, List.replicate_succ, List.replicate_zero, Nat.reduceSub, Nat.reduceAdd, Nat.reduceLT, true_and, and_true, if_true, Bool.false_eq_true, if_false, true_implies, false_implies, forall_const, decide_eq_true_eq, decide_eq_false_iff_not, Bool.not_eq_true', Bool.not_eq_false', reduceCtorEq, E]
        refine spots_w (d := 196) iSpots iTake (by omega) (by omega) a fun ps g1 pl p0 b1 => ?_
        refine take_w iTake (by decide) (b1.dr a) fun r g2 r0 r1 b2 => ?_
        have b2 := b1.trans b2
        obtain ⟨r, rfl⟩ := Int.eq_ofNat_of_zero_le r0
        refine keptAll_w (d := 194) (many := r) iKeptAll iKept iTwo iPick iTake (by omega) (by omega) (b2.dr a) fun rk g3 kl kin b3 => ?_
        have b3 := b2.trans b3
        have lt := (b3.dr a).lt
        have cl6 := (List.getElem?_eq_some_iff.mp e6').1
        have cl7 := (List.getElem?_eq_some_iff.mp e7').1
        rw [pl] at kin
        rw [conv_tld]
        exact ⟨rk, g3.length, by omega, kin, by omega, by rw [List.getElem?_append_left (by rw [b3.len]; exact cl6), b3.get c60]; exact e6', by rw [List.getElem?_append_left (by rw [b3.len]; exact cl7), b3.get c70]; exact e7', List.getElem?_concat_length .., rfl, (b3.dr a).app⟩
      clear a e6' e7' h
      rintro _ h ⟨rk, c8, kl, kin, c80, e6', e7', e8', rfl, a⟩
      refine w_cut (fun e h1 => ∃ rs : List Rd, rs.Perm (rk ++ rr) ∧ h1[c6]? = some (.lst ((us.map fun u => D.int (u : Nat)).map .d)) ∧ h1[c7]? = some (.lst ((rr.map Rd.D).map .d)) ∧ e = E (some (.d (.int (m : Nat)))) (some (.d (.int s))) (some (.ref c6)) (some (.ref c7)) (some (.ref c8)) (some (.d (rsD rs))) e10 e11 e12 e13 e14 e15 ∧ Dr 0 h1) ?_ ?_
      · simp only [Pe.Pw.ws, List.set_cons_zero, List.set_cons_succ, List.length_cons, List.length_nil, List.map_cons, List.map_nil, List.cons_append, List.nil_append, List.replicate_succ, List.replicate_zero, Nat.reduceSub, Nat.reduceAdd, Nat.reduceLT, true_and, and_true, if_true, Bool.false_eq_true, if_false, true_implies, false_implies, forall_const, decide_eq_true_eq, decide_eq_false_iff_not, Bool.not_eq_true', Bool.not_eq_false', reduceCtorEq, E, w_addRR e8' e7', List.length_map]
        refine ⟨by omega, ?_⟩
        rw [show (rk.map Rd.D).map PV.d ++ (rr.map Rd.D).map PV.d = ((rk ++ rr).map Rd.D).map .d by rw [List.map_append, List.map_append]]
        refine shuf_w iShuf iTake (by rw [List.length_map, List.length_append]; omega) a fun ys g2 pm b2 => ?_
        obtain ⟨rs, pu, rfl⟩ := perm_map pm rfl
        simp only [Pe.Pw.ws, List.set_cons_zero, List.set_cons_succ, List.length_cons, List.length_nil, List.map_cons, List.map_nil, List.cons_append, List.nil_append, List.replicate_succ, List.replicate_zero, Nat.reduceSub, Nat.reduceAdd, Nat.reduceLT, true_and, and_true, if_true, Bool.false_eq_true, if_false, true_implies, false_implies, forall_const, decide_eq_true_eq, decide_eq_false_iff_not, Bool.not_eq_true', Bool.not_eq_false', reduceCtorEq, mkTup_ds]
        exact ⟨rs, pu, by rw [b2.get c60]; exact e6', by rw [b2.get c70]; exact e7', rfl, b2.dr a⟩
      clear a e6' e7' e8' h
      rintro _ h ⟨rs, pm, e6', e7', rfl, a⟩
      have rsl : rs.length ≤ 30 := by rw [pm.length_eq, List.length_append]; omega
      have rmem : ∀ r ∈ rr, r ∈ rs := fun r hr => pm.mem_iff.mpr (List.mem_append_right _ hr)
      refine w_cut (fun e h1 => h1[c6]? = some (.lst ((us.map fun u => D.int (u : Nat)).map .d)) ∧ h1[c7]? = some (.lst ((rr.map Rd.D).map .d)) ∧ e = E (some (.d (.int (m : Nat)))) (some (.d (.int s))) (some (.ref c6)) (some (.ref c7)) (some (.ref c8)) (some (.d (rsD rs))) e10 e11 e12 e13 e14 e15 ∧ Dr 0 h1) ?_ ?_
      · simp only [Pe.Pw.ws, List.set_cons_zero, List.set_cons_succ, List.length_cons, List.length_nil, List.map_cons, List.map_nil, List.cons_append, List.nil_append, List.replicate_succ, List.replicate_zero, Nat.reduceSub, Nat.reduceAdd, Nat.reduceLT, true_and, and_true, if_true, Bool.false_eq_true, if_false, true_implies, false_implies, forall_const, decide_eq_true_eq, decide_eq_false_iff_not, Bool.not_eq_true', Bool.not_eq_false', reduceCtorEq, E]
        refine asksWays_w (d := 185) (by omega) (by omega) a fun g b => ?_
        simp only [Pe.Pw.ws, List.set_cons_zero, List.set_cons_succ, List.length_cons, List.length_nil, List.map_cons, List.map_nil, List.cons_append, List.nil_append, List.replicate_succ, List.replicate_zero, Nat.reduceSub, Nat.reduceAdd, Nat.reduceLT, true_and, and_true, if_true, Bool.false_eq_true, if_false, true_implies, false_implies, forall_const, decide_eq_true_eq, decide_eq_false_iff_not, Bool.not_eq_true', Bool.not_eq_false', reduceCtorEq]
        exact ⟨by rw [b.get c60]; exact e6', by rw [b.get c70]; exact e7', b.dr a⟩
      clear a e6' e7' h
      rintro _ h ⟨e6', e7', rfl, a⟩
      have int2 : ∀ j g : Int, Be 30 1 (.tup [.int j, .int g]) := fun j g => ⟨by simp, fun x hx => by
        simp only [List.mem_cons, List.not_mem_nil, or_false] at hx
        rcases hx with rfl | rfl <;> exact True.intro⟩
      refine w_cut (fun e h1 => ∃ (sd : List D) (e11 : Option PV), h1 = h ∧ sd.length = us.length ∧ (∀ x ∈ sd, Be 30 1 x) ∧ e = E (some (.d (.int (m : Nat)))) (some (.d (.int s))) (some (.ref c6)) (some (.ref c7)) (some (.ref c8)) (some (.d (rsD rs))) (some (.d (.tup sd))) e11 e12 e13 e14 e15) ?_ ?_
      · simp only [Pe.Pw.ws, List.set_cons_zero, List.set_cons_succ, List.length_cons, List.length_nil, List.map_cons, List.map_nil, List.cons_append, List.nil_append, List.replicate_succ, List.replicate_zero, Nat.reduceSub, Nat.reduceAdd, Nat.reduceLT, true_and, and_true, if_true, Bool.false_eq_true, if_false, true_implies, false_implies, forall_const, decide_eq_true_eq, decide_eq_false_iff_not, Bool.not_eq_true', Bool.not_eq_false', reduceCtorEq, E, w_lenR e6', List.length_map]
        refine ⟨by omega, ?_⟩
        rw [show ((us.length : Int) - 0).toNat = us.length by omega]
        refine w_clN (fun i acc hh => hh = h ∧ ∃ sd : List D, sd.length = i ∧ (∀ x ∈ sd, Be 30 1 x) ∧ acc = sd.map .d) ⟨rfl, [], rfl, fun _ z => absurd z List.not_mem_nil, rfl⟩ (fun i acc hh hi p => ?_) fun acc hh p => ?_
        · obtain ⟨rfl, sd, rfl, sb, rfl⟩ := p
          have hi2 : sd.length < rr.length := by omega
          have k6 : L2.atI ((us.map fun u => D.int (u : Nat)).map PV.d) ((0 : Int) + (sd.length : Nat)) = some (.d (.int (us[sd.length] : Nat))) := by rw [Int.zero_add, atI_nat, List.getElem?_map, List.getElem?_map, List.getElem?_eq_getElem hi]; rfl
          have k7 : L2.atI ((rr.map Rd.D).map PV.d) ((0 : Int) + (sd.length : Nat)) = some (.d rr[sd.length].D) := by rw [Int.zero_add, atI_nat, List.getElem?_map, List.getElem?_map, List.getElem?_eq_getElem hi2]; rfl
          obtain ⟨j, g, ej⟩ := sideOf_e (d := 198) (rs := rs) (r := rr[sd.length]) (u := (us[sd.length] : Nat)) (rmem _ (List.getElem_mem hi2)) (by omega)
          simp only [Pe.Pw.ws, List.set_cons_zero, List.set_cons_succ, List.length_cons, List.length_nil, List.map_cons, List.map_nil, List.cons_append, List.nil_append, List.replicate_succ, List.replicate_zero, Nat.reduceSub, Nat.reduceAdd, Nat.reduceLT, true_and, and_true, if_true, Bool.false_eq_true, if_false, true_implies, false_implies, forall_const, decide_eq_true_eq, decide_eq_false_iff_not, Bool.not_eq_true', Bool.not_eq_false', reduceCtorEq, w_ixR e7' k7, w_ixR e6' k6, w_iff (ej _)]
          refine ⟨⟨rfl, sd ++ [.tup [.int j, .int g]], by simp, fun x hx => ?_, by simp⟩, ?_⟩
          · rcases List.mem_append.mp hx with hx | hx
            · exact sb x hx
            · rw [List.mem_singleton.mp hx]; exact int2 j g
          · rw [List.length_map]
            omega
        · obtain ⟨rfl, sd, sl, sb, rfl⟩ := p
          simp only [Pe.Pw.ws, List.set_cons_zero, List.set_cons_succ, List.length_cons, List.length_nil, List.map_cons, List.map_nil, List.cons_append, List.nil_append, List.replicate_succ, List.replicate_zero, Nat.reduceSub, Nat.reduceAdd, Nat.reduceLT, true_and, and_true, if_true, Bool.false_eq_true, if_false, true_implies, false_implies, forall_const, decide_eq_true_eq, decide_eq_false_iff_not, Bool.not_eq_true', Bool.not_eq_false', reduceCtorEq, mkTup_ds]
          exact ⟨sd, _, sl, sb, rfl⟩
      rintro _ h ⟨sd, e11, rfl, sl, sb, rfl⟩
      refine w_cut (fun e h1 => ∃ k : Nat, k < sd.length ∧ e = E (some (.d (.int (m : Nat)))) (some (.d (.int s))) (some (.ref c6)) (some (.ref c7)) (some (.ref c8)) (some (.d (rsD rs))) (some (.d (.tup sd))) (some (.d (.int (k : Nat)))) e12 e13 e14 e15 ∧ Dr 0 h1) ?_ ?_
      · simp only [Pe.Pw.ws, List.set_cons_zero, List.set_cons_succ, List.length_cons, List.length_nil, List.map_cons, List.map_nil, List.cons_append, List.nil_append, List.replicate_succ, List.replicate_zero, Nat.reduceSub, Nat.reduceAdd, Nat.reduceLT, true_and, and_true, if_true, Bool.false_eq_true, if_false, true_implies, false_implies, forall_const, decide_eq_true_eq, decide_eq_false_iff_not, Bool.not_eq_true', Bool.not_eq_false', reduceCtorEq, E]
        refine take_w iTake (by omega) a fun r g r0 r1 b => ?_
        obtain ⟨r, rfl⟩ := Int.eq_ofNat_of_zero_le r0
        simp only [Pe.Pw.ws, List.set_cons_zero, List.set_cons_succ, List.length_cons, List.length_nil, List.map_cons, List.map_nil, List.cons_append, List.nil_append, List.replicate_succ, List.replicate_zero, Nat.reduceSub, Nat.reduceAdd, Nat.reduceLT, true_and, and_true, if_true, Bool.false_eq_true, if_false, true_implies, false_implies, forall_const, decide_eq_true_eq, decide_eq_false_iff_not, Bool.not_eq_true', Bool.not_eq_false', reduceCtorEq]
        exact ⟨r, by omega, rfl, b.dr a⟩
      clear a e6' e7' h
      rintro _ h ⟨k, hk, rfl, a⟩
      refine w_cut (fun e h1 => h1 = h ∧ ∃ sd : List D, sd.length = us.length ∧ (∀ x ∈ sd, Be 30 1 x) ∧ e = E (some (.d (.int (m : Nat)))) (some (.d (.int s))) (some (.ref c6)) (some (.ref c7)) (some (.ref c8)) (some (.d (rsD rs))) (some (.d (.tup sd))) (some (.d (.int (k : Nat)))) e12 e13 e14 e15) ?_ ?_
      · simp only [Pe.Pw.ws, List.set_cons_zero, List.set_cons_succ, List.length_cons, List.length_nil, List.map_cons, List.map_nil, List.cons_append, List.nil_append, List.replicate_succ, List.replicate_zero, Nat.reduceSub, Nat.reduceAdd, Nat.reduceLT, true_and, and_true, if_true, Bool.false_eq_true, if_false, true_implies, false_implies, forall_const, decide_eq_true_eq, decide_eq_false_iff_not, Bool.not_eq_true', Bool.not_eq_false', reduceCtorEq, E]
        rw [cut_lo, cut_hi]
        refine ⟨by rw [List.length_drop, List.length_take]; omega, sd.drop k ++ sd.take k, by rw [List.length_append, List.length_drop, List.length_take]; omega, fun x hx => ?_, rfl⟩
        rcases List.mem_append.mp hx with hx | hx
        · exact sb x (List.mem_of_mem_drop hx)
        · exact sb x (List.mem_of_mem_take hx)
      clear sl sb hk sd
      rintro _ h ⟨rfl, sd, sl, sb, rfl⟩
      have up : ∀ {N k : Nat} {x : D}, N ≤ 40 → k ≤ 6 → Be N k x → Be 40 6 x := fun h1 h2 b => Be.mono h1 h2 b
      have sdb : Be 30 2 (.tup sd) := ⟨by omega, sb⟩
      refine w_cut (fun e h1 => ∃ (ts : List D) (c12 : Nat) (e15 : Option PV), ts.length ≤ 20 ∧ (∀ t ∈ ts, Be 40 6 t) ∧ c12 ≠ 0 ∧ h1[c12]? = some (.lst (ts.map .d)) ∧ e = E (some (.d (.int (m : Nat)))) (some (.d (.int s))) (some (.ref c6)) (some (.ref c7)) (some (.ref c8)) (some (.d (rsD rs))) (some (.d (.tup sd))) (some (.d (.int (k : Nat)))) (some (.ref c12)) e13 e14 e15 ∧ Dr 0 h1) ?_ ?_
      · simp only [Pe.Pw.ws, List.set_cons_zero, List.set_cons_succ, List.length_cons, List.length_nil, List.map_cons, List.map_nil, List.cons_append, List.nil_append, List.replicate_succ, List.replicate_zero, Nat.reduceSub, Nat.reduceAdd, Nat.reduceLT, true_and, and_true, if_true, Bool.false_eq_true, if_false, true_implies, false_implies, forall_const, decide_eq_true_eq, decide_eq_false_iff_not, Bool.not_eq_true', Bool.not_eq_false', reduceCtorEq, E, mkTup_nil]
        rw [show (1 : Int) = ((1 : Nat) : Int) from rfl, cut_lo]
        refine ⟨by omega, sz, ?_⟩
        refine odd_e (d := 196) iOdd iTake iPick a fun t3 g ht3 b1 => ?_
        refine ⟨sz, by omega, ?_⟩
        rw [show ((4 : Int) - 0).toNat = 4 from rfl]
        refine w_clN (fun i acc hh => ∃ bs : List D, bs.length = i ∧ (∀ t ∈ bs, Be 40 6 t) ∧ Dn 0 h hh ∧ acc = bs.map .d) ⟨[], rfl, fun _ z => absurd z List.not_mem_nil, b1, rfl⟩ (fun i acc hh hi p => ?_) fun acc hh p => ?_
        · obtain ⟨bs, rfl, bb, b, rfl⟩ := p
          simp only [Pe.Pw.ws, List.set_cons_zero, List.set_cons_succ, List.length_cons, List.length_nil, List.map_cons, List.map_nil, List.cons_append, List.nil_append, List.replicate_succ, List.replicate_zero, Nat.reduceSub, Nat.reduceAdd, Nat.reduceLT, true_and, and_true, if_true, Bool.false_eq_true, if_false, true_implies, false_implies, forall_const, decide_eq_true_eq, decide_eq_false_iff_not, Bool.not_eq_true', Bool.not_eq_false', reduceCtorEq]
          refine bent_e (d := 193) iBent iLeaf iPut iTake iPick (N := 30) (by omega) (by omega) 2 _ _ _ sdb (b.dr a) fun t g2 ht b2 => ?_
          refine ⟨⟨bs ++ [t], by simp, fun x hx => ?_, b.trans b2, by simp⟩, ?_⟩
          · rcases List.mem_append.mp hx with hx | hx
            · exact bb x hx
            · rw [List.mem_singleton.mp hx]; exact up (by omega) (by omega) ht
          · rw [List.length_map]
            omega
        · obtain ⟨bs, bl, bb, b, rfl⟩ := p
          rw [List.length_map]
          refine ⟨by omega, ?_⟩
          have lt := (b.dr a).lt
          let ts : List D := [.tup sd, .tup (sd ++ sd), .tup (sd.drop 1), .tup [], t3] ++ bs
          rw [show PV.d (.tup sd) :: PV.d (.tup (sd ++ sd)) :: PV.d (.tup (sd.drop 1)) :: PV.d (.tup []) :: PV.d t3 :: bs.map PV.d = ts.map .d from rfl, conv_tld]
          refine ⟨ts, hh.length, _, by simp [ts, bl], fun t ht => ?_, by omega, List.getElem?_concat_length .., rfl, (b.dr a).app⟩
          rcases List.mem_append.mp ht with ht | ht
          · simp only [List.mem_cons, List.not_mem_nil, or_false] at ht
            rcases ht with rfl | rfl | rfl | rfl | rfl
            · exact up (by omega) (by omega) sdb
            · refine up (N := 40) (k := 2) (by omega) (by omega) ⟨by rw [List.length_append]; omega, fun z hz => ?_⟩
              rcases List.mem_append.mp hz with hz | hz <;> exact Be.mono (by omega) (Nat.le_refl _) (sb z hz)
            · exact up (N := 30) (k := 2) (by omega) (by omega) ⟨by rw [List.length_drop]; omega, fun z hz => sb z (List.mem_of_mem_drop hz)⟩
            · exact up (N := 30) (k := 1) (by omega) (by omega) ⟨by simp, fun z hz => absurd hz List.not_mem_nil⟩
            · exact up (by omega) (by omega) ht3
          · exact bb t ht
      clear a h e15
      rintro _ h ⟨ts, c12, e15, tl, tb, c120, et, rfl, a⟩
      refine w_cut (fun e h1 => ∃ x : Nat, x < m ∧ h1[c12]? = some (.lst (ts.map .d)) ∧ e = E (some (.d (.int (m : Nat)))) (some (.d (.int s))) (some (.ref c6)) (some (.ref c7)) (some (.ref c8)) (some (.d (rsD rs))) (some (.d (.tup sd))) (some (.d (.int (k : Nat)))) (some (.ref c12)) (some (.d (.int (x : Nat)))) e14 e15 ∧ Dr 0 h1) ?_ ?_
      · simp only [Pe.Pw.ws, List.set_cons_zero, List.set_cons_succ, List.length_cons, List.length_nil, List.map_cons, List.map_nil, List.cons_append, List.nil_append, List.replicate_succ, List.replicate_zero, Nat.reduceSub, Nat.reduceAdd, Nat.reduceLT, true_and, and_true, if_true, Bool.false_eq_true, if_false, true_implies, false_implies, forall_const, decide_eq_true_eq, decide_eq_false_iff_not, Bool.not_eq_true', Bool.not_eq_false', reduceCtorEq, E]
        refine take_w iTake (by omega) a fun r g r0 r1 b => ?_
        obtain ⟨r, rfl⟩ := Int.eq_ofNat_of_zero_le r0
        simp only [Pe.Pw.ws, List.set_cons_zero, List.set_cons_succ, List.length_cons, List.length_nil, List.map_cons, List.map_nil, List.cons_append, List.nil_append, List.replicate_succ, List.replicate_zero, Nat.reduceSub, Nat.reduceAdd, Nat.reduceLT, true_and, and_true, if_true, Bool.false_eq_true, if_false, true_implies, false_implies, forall_const, decide_eq_true_eq, decide_eq_false_iff_not, Bool.not_eq_true', Bool.not_eq_false', reduceCtorEq]
        exact ⟨r, by omega, by rw [b.get c120]; exact et, rfl, b.dr a⟩
      clear a et h
      rintro _ h ⟨x, hx, et, rfl, a⟩
      refine w_cut (fun e h1 => ∃ ts : List D, (∀ t ∈ ts, Be 40 6 t) ∧ h1[c12]? = some (.lst (ts.map .d)) ∧ e = E (some (.d (.int (m : Nat)))) (some (.d (.int s))) (some (.ref c6)) (some (.ref c7)) (some (.ref c8)) (some (.d (rsD rs))) (some (.d (.tup sd))) (some (.d (.int (k : Nat)))) (some (.ref c12)) (some (.d (.int (x : Nat)))) e14 e15 ∧ Dr 0 h1) ?_ ?_
      · simp only [Pe.Pw.ws, List.set_cons_zero, List.set_cons_succ, List.length_cons, List.length_nil, List.map_cons, List.map_nil, List.cons_append, List.nil_append, List.replicate_succ, List.replicate_zero, Nat.reduceSub, Nat.reduceAdd, Nat.reduceLT, true_and, and_true, if_true, Bool.false_eq_true, if_false, true_implies, false_implies, forall_const, decide_eq_true_eq, decide_eq_false_iff_not, Bool.not_eq_true', Bool.not_eq_false', reduceCtorEq, E]
        refine ldrawnWay_w (d := 196) (most := 6) iDw iLarcs iTake iPick (by omega) (by omega) a fun l y g lm ll b => ?_
        have et2 : g[c12]? = some (.lst (ts.map .d)) := by rw [b.get c120]; exact et
        have cl := (List.getElem?_eq_some_iff.mp et2).1
        have i0 : ∀ a b : D, L2.atI [a, b] 0 = some a := fun _ _ => rfl
        simp only [Pe.Pw.ws, List.set_cons_zero, List.set_cons_succ, List.length_cons, List.length_nil, List.map_cons, List.map_nil, List.cons_append, List.nil_append, List.replicate_succ, List.replicate_zero, Nat.reduceSub, Nat.reduceAdd, Nat.reduceLT, true_and, and_true, if_true, Bool.false_eq_true, if_false, true_implies, false_implies, forall_const, decide_eq_true_eq, decide_eq_false_iff_not, Bool.not_eq_true', Bool.not_eq_false', reduceCtorEq, w_ixT (i0 _ _)]
        rw [w_app (h := g) et2 (show (ts.map PV.d).length < sizeLine by rw [List.length_map]; omega)]
        refine ⟨ts ++ [.tup (l.map Ar.s)], fun t ht => ?_, by rw [List.getElem?_set_self cl]; simp, ?_⟩
        · rcases List.mem_append.mp ht with ht | ht
          · exact tb t ht
          · rw [List.mem_singleton.mp ht]; exact up (by omega) (by omega) (way_be (most := 6) (by omega) ll lm)
        · obtain ⟨ds, e⟩ := b.dr a
          exact ⟨ds, by rw [List.getElem?_set_ne c120]; exact e⟩
      clear a et tl tb ts h
      rintro _ h ⟨ts, tb, et, rfl, a⟩
      simp only [Pe.Pw.ws, List.set_cons_zero, List.set_cons_succ, List.length_cons, List.length_nil, List.map_cons, List.map_nil, List.cons_append, List.nil_append, List.replicate_succ, List.replicate_zero, Nat.reduceSub, Nat.reduceAdd, Nat.reduceLT, true_and, and_true, if_true, Bool.false_eq_true, if_false, true_implies, false_implies, forall_const, decide_eq_true_eq, decide_eq_false_iff_not, Bool.not_eq_true', Bool.not_eq_false', reduceCtorEq, E]
      refine w_for (ts.map .d) (fun i2 e h1 => h1 = h ∧ ∃ e14, e = E (some (.d (.int (m : Nat)))) (some (.d (.int s))) (some (.ref c6)) (some (.ref c7)) (some (.ref c8)) (some (.d (rsD rs))) (some (.d (.tup sd))) (some (.d (.int (k : Nat)))) (some (.ref c12)) (some (.d (.int (x : Nat)))) e14 e15) ⟨rfl, _, rfl⟩ (fun i2 e h1 _ p => by rw [p.1]; exact its_cell et) (fun i2 e h1 v ev p => ?_) fun e h1 p => ?_
      rotate_left
      · obtain ⟨rfl, e14, rfl⟩ := p
        simp only [Pe.Pw.ws, List.set_cons_zero, List.set_cons_succ, List.length_cons, List.length_nil, List.map_cons, List.map_nil, List.cons_append, List.nil_append, List.replicate_succ, List.replicate_zero, Nat.reduceSub, Nat.reduceAdd, Nat.reduceLT, true_and, and_true, if_true, Bool.false_eq_true, if_false, true_implies, false_implies, forall_const, decide_eq_true_eq, decide_eq_false_iff_not, Bool.not_eq_true', Bool.not_eq_false', reduceCtorEq, E]
        exact ⟨_, _, _, _, _, _, _, _, _, _, _, _, _, rfl, a⟩
      obtain ⟨rfl, e14, rfl⟩ := p
      have hi2 := (List.getElem?_eq_some_iff.mp ev).1
      rw [List.length_map] at hi2
      rw [List.getElem?_map, List.getElem?_eq_getElem hi2] at ev
      cases ev
      have tt := tb _ (List.getElem_mem hi2)
      generalize ts[i2] = t at *
      refine w_nm.mpr ⟨(by decide : 14 < 16), ?_⟩
      rw [conv_d]
      simp only [Pe.Pw.ws, List.set_cons_zero, List.set_cons_succ, List.length_cons, List.length_nil, List.map_cons, List.map_nil, List.cons_append, List.nil_append, List.replicate_succ, List.replicate_zero, Nat.reduceSub, Nat.reduceAdd, Nat.reduceLT, true_and, and_true, if_true, Bool.false_eq_true, if_false, true_implies, false_implies, forall_const, decide_eq_true_eq, decide_eq_false_iff_not, Bool.not_eq_true', Bool.not_eq_false', reduceCtorEq, E, w_iff (clash_e (h := h1) (d := 194) (m := m) (rs := rs) tt (by omega)), w_iff (lclash_e (h := h1) (d := 195) (rs := rs) tt (by omega)), w_iff (same_e (h := h1) (d := 199) (k := 0) (x := .bl (clD rs t)) True.intro (by omega)), Bool.not_true]
      exact ⟨_, rfl⟩
    rintro _ h ⟨e2, e4, e5, e6, e7, e8, e9, e10, e11, e12, e13, e14, e15, rfl, a⟩
    have c1 := fun h => clash_e (h := h) (d := 194) (m := 2) (rs := sgl) two_be.1 (by decide)
    have c2 := fun h => clash_e (h := h) (d := 194) (m := 2) (rs := sgl) two_be.2 (by decide)
    rw [sgl_two] at c1
    rw [sgl_three] at c2
    have c1' : ∀ h, cal FT 199 7 [.d (.int 2), .d (.tup [.tup [.int 0, .int 1, .int 4, .non], .tup [.int 0, .int 1, .non, .int 3]]), .d (.tup [.tup [.int 0, .int (-1)], .tup [.int 1, .int 1]])] h = some (.d (.bl true), h) := c1
    have c2' : ∀ h, cal FT 199 7 [.d (.int 2), .d (.tup [.tup [.int 0, .int 1, .int 4, .non], .tup [.int 0, .int 1, .non, .int 3]]), .d (.tup [.tup [.int 0, .int (-1)], .tup [.int 1, .int 1], .tup [.int 0, .int (-1)]])] h = some (.d (.bl false), h) := c2
    have mk3 : ∀ a b c : D, mkTup [.d a, .d b, .d c] = .d (.tup [a, b, c]) := fun _ _ _ => rfl
    simp only [Pe.Pw.ws, List.set_cons_zero, List.set_cons_succ, List.length_cons, List.length_nil, List.map_cons, List.map_nil, List.cons_append, List.nil_append, List.replicate_succ, List.replicate_zero, Nat.reduceSub, Nat.reduceAdd, Nat.reduceLT, true_and, and_true, if_true, Bool.false_eq_true, if_false, true_implies, false_implies, forall_const, decide_eq_true_eq, decide_eq_false_iff_not, Bool.not_eq_true', Bool.not_eq_false', reduceCtorEq, mkTup_2, mkTup_4, mk3, w_iff (c1' _), w_iff (c2' _), w_isB]
    exact ⟨sz, sz, sz, sz, sz, sz, ⟨sz, sz, sz, sz, rfl⟩, fun c => absurd trivial c⟩
  obtain ⟨v, h1, e, rfl⟩ := wp_some w
  exact ⟨h1, e⟩
end
end K33
open PySem PySem.W PyProof.Rows in
set_option maxHeartbeats 0 in
theorem PySem.Challenge.cw_mapwalked_k33_ways_and_rings_holds : PySem.Challenge.rw_mapwalked_k33_ways_and_rings.Holds := by
  w_on; o_law; k_head; (case hw => w_witness2)
  k_fill
  refine L2.walk_of (l := PySem.Challenge.rw_mapwalked_k33_ways_and_rings) (n := 63) (k := 200) (x := Str.ofString "script") (CX := fun _ => L2.CX0) (sp := fun w => Pe.spC _ (Pe.call K33.FT 200 32) 1) rfl (by decide) rfl ⟨rfl, by decide, by decide⟩ (fun w h Y => PySem.W.kIn_of Y) ?F (fun _ H a ns hl hO hS => Pe.law_sp K33.holds H a ns hl hO hS) (fun _ _ _ _ _ h => h)
  case F =>
    intro w mg fa h KX G hmg
    have t0 := Pe.fnK_mk (t := K33.f0) (st := K33.topS 1) KX G (fun _ _ _ _ _ _ us hl => match us, hl with | [_], _ => rfl) (by k_is) (by k_is) (by k_is) (by k_is)
    have t1 := Pe.fnK_mk (t := K33.f1) (st := K33.topS 2) KX G (fun _ _ _ _ _ _ us hl => match us, hl with | [_, _], _ => rfl) (by k_is) (by k_is) (by k_is) (by k_is)
    have t2 := Pe.fnK_mk (t := K33.f2) (st := K33.topS 4) KX G (fun _ _ _ _ _ _ us hl => match us, hl with | [_, _], _ => rfl) (by k_is) (by k_is) (by k_is) (by k_is)
    have t3 := Pe.fnK_mk (t := K33.f3) (st := K33.topS 5) KX G (fun _ _ _ _ _ _ us hl => match us, hl with | [_, _], _ => rfl) (by k_is) (by k_is) (by k_is) (by k_is)
    have t4 := Pe.fnK_mk (t := K33.f4) (st := K33.topS 6) KX G (fun _ _ _ _ _ _ us hl => match us, hl with | [_, _], _ => rfl) (by k_is) (by k_is) (by k_is) (by k_is)
    have t5 := Pe.fnK_mk (t := K33.f5) (st := K33.topS 7) KX G (fun _ _ _ _ _ _ us hl => match us, hl with | [_, _, _, _, _], _ => rfl) (by k_is) (by k_is) (by k_is) (by k_is)
    have t6 := Pe.fnK_mk (t := K33.f6) (st := K33.topS 8) KX G (fun _ _ _ _ _ _ us hl => match us, hl with | [_, _, _], _ => rfl) (by k_is) (by k_is) (by k_is) (by k_is)
    have t7 := Pe.fnK_mk (t := K33.f7) (st := K33.topS 9) KX G (fun _ _ _ _ _ _ us hl => match us, hl with | [_, _, _], _ => rfl) (by k_is) (by k_is) (by k_is) (by k_is)
    have t8 := Pe.fnK_mk (t := K33.f8) (st := K33.topS 11) KX G (fun _ _ _ _ _ _ us hl => match us, hl with | [_, _], _ => rfl) (by k_is) (by k_is) (by k_is) (by k_is)
    have t9 := Pe.fnK_mk (t := K33.f9) (st := K33.topS 12) KX G (fun _ _ _ _ _ _ us hl => match us, hl with | [_, _], _ => rfl) (by k_is) (by k_is) (by k_is) (by k_is)
    have t10 := Pe.fnK_mk (t := K33.f10) (st := K33.topS 13) KX G (fun _ _ _ _ _ _ us hl => match us, hl with | [_, _], _ => rfl) (by k_is) (by k_is) (by k_is) (by k_is)
    have t11 := Pe.fnK_mk (t := K33.f11) (st := K33.topS 14) KX G (fun _ _ _ _ _ _ us hl => match us, hl with | [_, _], _ => rfl) (by k_is) (by k_is) (by k_is) (by k_is)
    have t12 := Pe.fnK_mk (t := K33.f12) (st := K33.topS 15) KX G (fun _ _ _ _ _ _ us hl => match us, hl with | [_, _], _ => rfl) (by k_is) (by k_is) (by k_is) (by k_is)
    have t13 := Pe.fnK_mk (t := K33.f13) (st := K33.topS 16) KX G (fun _ _ _ _ _ _ us hl => match us, hl with | [_, _, _], _ => rfl) (by k_is) (by k_is) (by k_is) (by k_is)
    have t14 := Pe.fnK_mk (t := K33.f14) (st := K33.topS 17) KX G (fun _ _ _ _ _ _ us hl => match us, hl with | [_], _ => rfl) (by k_is) (by k_is) (by k_is) (by k_is)
    have t15 := Pe.fnK_mk (t := K33.f15) (st := K33.topS 18) KX G (fun _ _ _ _ _ _ us hl => match us, hl with | [_, _, _], _ => rfl) (by k_is) (by k_is) (by k_is) (by k_is)
    have t16 := Pe.fnK_mk (t := K33.f16) (st := K33.topS 19) KX G (fun _ _ _ _ _ _ us hl => match us, hl with | [_, _], _ => rfl) (by k_is) (by k_is) (by k_is) (by k_is)
    have t17 := Pe.fnK_mk (t := K33.f17) (st := K33.topS 20) KX G (fun _ _ _ _ _ _ us hl => match us, hl with | [_, _, _], _ => rfl) (by k_is) (by k_is) (by k_is) (by k_is)
    have t18 := Pe.fnK_mk (t := K33.f18) (st := K33.topS 21) KX G (fun _ _ _ _ _ _ us hl => match us, hl with | [_, _, _, _], _ => rfl) (by k_is) (by k_is) (by k_is) (by k_is)
    have t19 := Pe.fnK_mk (t := K33.f19) (st := K33.topS 22) KX G (fun _ _ _ _ _ _ us hl => match us, hl with | [_, _, _, _, _], _ => rfl) (by k_is) (by k_is) (by k_is) (by k_is)
    have t20 := Pe.fnK_mk (t := K33.f20) (st := K33.topS 23) KX G (fun _ _ _ _ _ _ us hl => match us, hl with | [_], _ => rfl) (by k_is) (by k_is) (by k_is) (by k_is)
    have t21 := Pe.fnK_mk (t := K33.f21) (st := K33.topS 24) KX G (fun _ _ _ _ _ _ us hl => match us, hl with | [_, _], _ => rfl) (by k_is) (by k_is) (by k_is) (by k_is)
    have t22 := Pe.fnK_mk (t := K33.f22) (st := K33.topS 25) KX G (fun _ _ _ _ _ _ us hl => match us, hl with | [_, _], _ => rfl) (by k_is) (by k_is) (by k_is) (by k_is)
    have t23 := Pe.fnK_mk (t := K33.f23) (st := K33.topS 26) KX G (fun _ _ _ _ _ _ us hl => match us, hl with | [_, _], _ => rfl) (by k_is) (by k_is) (by k_is) (by k_is)
    have t24 := Pe.fnK_mk (t := K33.f24) (st := K33.topS 27) KX G (fun _ _ _ _ _ _ us hl => match us, hl with | [_, _, _, _], _ => rfl) (by k_is) (by k_is) (by k_is) (by k_is)
    have t25 := Pe.fnK_mk (t := K33.f25) (st := K33.topS 28) KX G (fun _ _ _ _ _ _ us hl => match us, hl with | [_], _ => rfl) (by k_is) (by k_is) (by k_is) (by k_is)
    have t26 := Pe.fnK_mk (t := K33.f26) (st := K33.topS 29) KX G (fun _ _ _ _ _ _ us hl => match us, hl with | [_, _], _ => rfl) (by k_is) (by k_is) (by k_is) (by k_is)
    have t27 := Pe.fnK_mk (t := K33.f27) (st := K33.topS 30) KX G (fun _ _ _ _ _ _ us hl => match us, hl with | [_, _], _ => rfl) (by k_is) (by k_is) (by k_is) (by k_is)
    have t28 := Pe.fnK_mk (t := K33.f28) (st := K33.topS 31) KX G (fun _ _ _ _ _ _ us hl => match us, hl with | [_, _, _, _], _ => rfl) (by k_is) (by k_is) (by k_is) (by k_is)
    have t29 := Pe.fnK_mk (t := K33.f29) (st := K33.topS 32) KX G (fun _ _ _ _ _ _ us hl => match us, hl with | [_, _, _], _ => rfl) (by k_is) (by k_is) (by k_is) (by k_is)
    have t30 := Pe.fnK_mk (t := K33.f30) (st := K33.topS 33) KX G (fun _ _ _ _ _ _ us hl => match us, hl with | [_, _], _ => rfl) (by k_is) (by k_is) (by k_is) (by k_is)
    have t31 := Pe.fnK_mk (t := K33.f31) (st := K33.topS 34) KX G (fun _ _ _ _ _ _ us hl => match us, hl with | [_, _, _], _ => rfl) (by k_is) (by k_is) (by k_is) (by k_is)
    have t32 := Pe.fnK_mk (t := K33.f32) (st := K33.topS 35) KX G (fun _ _ _ _ _ _ us hl => match us, hl with | [_], _ => rfl) (by k_is) (by k_is) (by k_is) (by k_is)
    have T : Pe.Tab _ mg K33.FT K33.S := .cons t0 <| .cons t1 <| .cons t2 <| .cons t3 <| .cons t4 <| .cons t5 <| .cons t6 <| .cons t7 <| .cons t8 <| .cons t9 <| .cons t10 <| .cons t11 <| .cons t12 <| .cons t13 <| .cons t14 <| .cons t15 <| .cons t16 <| .cons t17 <| .cons t18 <| .cons t19 <| .cons t20 <| .cons t21 <| .cons t22 <| .cons t23 <| .cons t24 <| .cons t25 <| .cons t26 <| .cons t27 <| .cons t28 <| .cons t29 <| .cons t30 <| .cons t31 <| .cons t32 <| .nil
    refine Pe.tab_walk (t := K33.f32) hmg T K33.ck (Pe.bl_all (l := Pe.bltAll) KX G (by unfold Pe.bltAll; repeat (first | exact .nil | refine .cons (by k_is) ?_))) rfl rfl rfl fun _ _ _ _ _ _ st v e => ?_
    cases e
    rfl


